/- At: where a match ends is told by the tree, the text and the place. Pick. twisted: a tree that may be anything. One; Packed. Letters. Re: a tree that is right, of a raw one. -/
import Derived.Test.YtmgofjgfmcmceaaF10
section
namespace Go.Proofs.Ytmgofjgfmcmceaa
open Go.RowKit
set_option maxRecDepth 4000
set_option maxHeartbeats 2000000

/-- The last place that is true, below one. -/
def lastT (l : List Bool) : Nat → Int × Bool
  | 0 => (0, false)
  | j + 1 => if l[j]? = some true then ((j : Int), true) else lastT l j

theorem at_loop (lim : Nat) (R : Value → Hp → Prop) (H : Hp) (l : List Bool) (b m : Nat) (hl : l.length = m) (hm : m ≤ 100000) (hp : isPl H b l) : ∀ (j : Nat) (z : Int) (t : List TV), z = (j : Int) - 1 → j ≤ m →
    clrF [8, 9] 0 t = (.undef :: .undef :: .undef :: .undef :: .undef :: .undef :: .undef :: .undef :: .val (.slice (some ⟨b, 0, none⟩) m m) :: .val (.int .i64 z) :: .undef :: .undef :: .undef :: .undef :: .undef :: .undef :: .undef :: .undef :: .undef :: .undef :: .undef :: .undef :: .undef :: .undef :: .undef :: .undef :: .undef :: .undef :: .undef :: .undef :: .undef :: .undef :: .undef :: .undef :: .undef :: .undef :: .undef :: .undef :: .undef :: .undef :: []) →
    R (.tuple #[.int .i64 (lastT l j).1, .bool (lastT l j).2]) H →
    RUN X 11 lim (fun t1 H1 => ∃ v, resultsA X.P Try.f11 t1 = some v ∧ R v H1) [.blk 0, .code c11_rrrrrr] (.loop c11_rrrrrlrbo) t H
  | 0, z, t, hz, hj, ht, hR => by
    have e1 : decide (0 ≤ z) = false := by simp; omega
    (refine run_loopk (b := c11_rrrrrlrbo) rfl keep11_7 ?_; rw [ht])
    refine rS c11_rrrrrlrbol c11_rrrrrlrbor rfl ?_
    refine rS c11_rrrrrlrboll c11_rrrrrlrbolr rfl ?_
    refine run_region rfl ?_
    simp only [sX, simprocAttr, -List.reduceReplicate, e1]
    refine rF c11_rrrrrlrbolrt c11_rrrrrlrbolre rfl rfl ?_
    refine run_exit rfl ?_
    simp only [sP, if_true]
    refine rS c11_rrrrrrl c11_rrrrrrr rfl ?_
    refine run_region rfl ?_
    simp only [sX, simprocAttr, -List.reduceReplicate]
    refine run_ret rfl ?_
    (simp only [sP]; refine ⟨_, (by rw [resultsA_eq Try.results11]; simp only [sR, List.mapM_cons, List.mapM_nil]; rfl), ?_⟩)
    exact hR
  | j + 1, z, t, hz, hj, ht, hR => by
    have e1 : decide (0 ≤ z) = true := by simp; omega
    have hjz : z.toNat = j := by omega
    have e2 : decide (0 ≤ z ∧ z < (m : Int)) = true := by simp; omega
    obtain ⟨w, hp'⟩ := hp
    have g := boolC_get l j (by omega)
    have w1 : IntKind.i64.wrap (z - 1) = z - 1 := IntWalk.i64_in _ (by omega)
    cases hb : l[j]'(by omega) with
    | true =>
      rw [hb] at g
      have hlt : lastT l (j + 1) = ((j : Int), true) := by simp [lastT, hb, List.getElem?_eq_getElem (show j < l.length by omega)]
      have hzj : z = (j : Int) := by omega
      rw [hlt, ← hzj] at hR
      (refine run_loopk (b := c11_rrrrrlrbo) rfl keep11_7 ?_; rw [ht])
      refine rS c11_rrrrrlrbol c11_rrrrrlrbor rfl ?_
      refine rS c11_rrrrrlrboll c11_rrrrrlrbolr rfl ?_
      refine run_region rfl ?_
      simp only [sX, simprocAttr, -List.reduceReplicate, e1]
      refine rT c11_rrrrrlrbolrt c11_rrrrrlrbolre rfl rfl ?_
      refine run_skip rfl ?_
      simp only [sP]
      refine rS c11_rrrrrlrborl c11_rrrrrlrborr rfl ?_
      refine run_block (b := c11_rrrrrlrborlb) rfl ?_
      refine rS c11_rrrrrlrborlbl c11_rrrrrlrborlbr rfl ?_
      refine run_region rfl ?_
      simp only [sX, simprocAttr, -List.reduceReplicate, e2, hjz, hp', g]
      refine rT c11_rrrrrlrborlbrt c11_rrrrrlrborlbre rfl rfl ?_
      refine rS c11_rrrrrlrborlbrtl c11_rrrrrlrborlbrtr rfl ?_
      refine run_region rfl ?_
      simp only [sX, simprocAttr, -List.reduceReplicate]
      refine run_ret rfl ?_
      (simp only [sP]; refine ⟨_, (by rw [resultsA_eq Try.results11]; simp only [sR, List.mapM_cons, List.mapM_nil]; rfl), ?_⟩)
      exact hR
    | false =>
      rw [hb] at g
      have hlt : lastT l (j + 1) = lastT l j := by simp [lastT, hb, List.getElem?_eq_getElem (show j < l.length by omega)]
      rw [hlt] at hR
      (refine run_loopk (b := c11_rrrrrlrbo) rfl keep11_7 ?_; rw [ht])
      refine rS c11_rrrrrlrbol c11_rrrrrlrbor rfl ?_
      refine rS c11_rrrrrlrboll c11_rrrrrlrbolr rfl ?_
      refine run_region rfl ?_
      simp only [sX, simprocAttr, -List.reduceReplicate, e1]
      refine rT c11_rrrrrlrbolrt c11_rrrrrlrbolre rfl rfl ?_
      refine run_skip rfl ?_
      simp only [sP]
      refine rS c11_rrrrrlrborl c11_rrrrrlrborr rfl ?_
      refine run_block (b := c11_rrrrrlrborlb) rfl ?_
      refine rS c11_rrrrrlrborlbl c11_rrrrrlrborlbr rfl ?_
      refine run_region rfl ?_
      simp only [sX, simprocAttr, -List.reduceReplicate, e2, hjz, hp', g]
      refine rF c11_rrrrrlrborlbrt c11_rrrrrlrborlbre rfl rfl ?_
      refine run_skip rfl ?_
      simp only [sP]
      refine run_region rfl ?_
      simp only [sX, simprocAttr, -List.reduceReplicate, w1]
      exact at_loop lim R H l b m hl hm ⟨w, hp'⟩ j (z - 1) _ (by omega) (by omega) (by simp only [sC, Nat.reduceBEq, Nat.reduceAdd]) hR

theorem at_ok {T : Tr} (h : Ok T) (x : List UInt8) (hx : x.length ≤ 1000) (k : Nat) (hk : k ≤ x.length) : ∃ (a : Int) (o : Bool), ∀ (lim : Nat) (H : Hp) (S : Nat → Prop) (p : Option Addr) (n : Nat), lim ≤ H.length → IsRe H S T (reC T.k T.s p n) →
    CallEx X lim 11 [reV T.k T.s p n, .string (bs x), .int .i64 k] H fun v H1 => v = .tuple #[.int .i64 a, .bool o] ∧ Gr H H1 := by
  obtain ⟨l', hl', hs⟩ := (step_ok h x hx).1 ((List.replicate (x.length + 1) false).set k true) (by simp)
  have hll : l'.length = x.length + 1 := by rw [hl']; simp
  refine ⟨(lastT l' (x.length + 1)).1, (lastT l' (x.length + 1)).2, ?_⟩
  intro lim H S p n hlim hI
  have hz : (bs x).size = x.length := bs_size x
  have e1 : decide ((k : Int) < 0) = false := by simp
  have e2 : decide ((x.length : Int) < (k : Int)) = false := by simp; omega
  have e3 : decide (0 ≤ (k : Int) ∧ (k : Int) < ((x.length + 1 : Nat) : Int)) = true := by simp; omega
  have w1 : IntKind.i64.wrap ((x.length : Int) + 1) = ((x.length + 1 : Nat) : Int) := by rw [IntWalk.i64_in _ (by omega)]; omega
  have hmk := boolC_mk H x (x.length + 1) hx rfl
  have hlC : k + 1 ≤ (boolC (List.replicate (x.length + 1) false)).length := by rw [boolC_len]; simp; omega
  have hst := fun v => boolC_set (List.replicate (x.length + 1) false) k v
  have hg0 : ∀ y z, Gr H ((H ++ [y]).set H.length z) := fun y z => ⟨by rw [List.length_set, len_snoc]; omega, fun b hb => by rw [getO_set_ne (by omega), getO_snoc hb]⟩
  have hlt : H.length < H.length + 1 := by omega
  have hp0 : ∀ y, isPl ((H ++ [y]).set H.length (some ⟨true, 1, boolC ((List.replicate (x.length + 1) false).set k true)⟩)) H.length ((List.replicate (x.length + 1) false).set k true) := fun y => ⟨true, getO_set_self (by rw [len_snoc]; omega)⟩
  unfold reV at hs ⊢
  (refine call_intro fun11 name11 body11 ?_; simp only [Try.ntmps11, List.map_cons, List.map_nil, List.length_cons, List.length_nil, Nat.zero_add, Nat.reduceAdd, Nat.reduceSub, List.replicate_succ, List.replicate_zero, List.cons_append, List.nil_append])
  refine rS c11_l c11_r rfl ?_
  refine run_region rfl ?_
  simp only [sX, simprocAttr, -List.reduceReplicate, pur11]
  refine rS c11_rl c11_rr rfl ?_
  refine rS c11_rll c11_rlr rfl ?_
  refine run_regionG rfl c11_rll_gs ?_
  simp only [sX, simprocAttr, -List.reduceReplicate, hz, e1, e2]
  refine rF c11_rlrt c11_rlre rfl rfl ?_
  refine run_skip rfl ?_
  simp only [sP]
  refine rS c11_rrl c11_rrr rfl ?_
  refine run_region rfl ?_
  simp only [sX, simprocAttr, -List.reduceReplicate, hz, w1, exe_makeSlice, hmk]
  refine rS c11_rrrl c11_rrrr rfl ?_
  refine run_region rfl ?_
  simp only [sX, simprocAttr, -List.reduceReplicate, e3, hlC, hst, hlim]
  refine rS c11_rrrrl c11_rrrrr rfl ?_
  refine run_region rfl ?_
  simp only [sX, simprocAttr, -List.reduceReplicate]
  refine call_of (hs _ _ S p n H.length (x.length + 1) (hI.gr (hg0 _ _)) (hp0 _) (by simp)) ?_
  rintro v H1 ⟨b1, rfl, hp1, hg1⟩
  simp only [sX, simprocAttr, -List.reduceReplicate]
  refine rS c11_rrrrrl c11_rrrrrr rfl ?_
  refine rS c11_rrrrrll c11_rrrrrlr rfl ?_
  refine run_region rfl ?_
  simp only [sX, simprocAttr, -List.reduceReplicate, hz]
  refine run_block (b := c11_rrrrrlrb) rfl ?_
  refine at_loop _ _ H1 l' b1 (x.length + 1) hll (by omega) hp1 (x.length + 1) (x.length : Int) _ (by omega) (Nat.le_refl _) (by simp only [sC, Nat.reduceBEq, Nat.reduceAdd]) ?_
  exact ⟨rfl, (hg0 _ _).trans hg1⟩
end Go.Proofs.Ytmgofjgfmcmceaa
end
section
namespace Go.Proofs.Ytmgofjgfmcmceaa
open Go.RowKit
set_option maxRecDepth 4000
set_option maxHeartbeats 1000000

theorem pick_ok (n m : Int) (hm : 0 < m) (hn : m ≤ 1000) (lim : Nat) (H : Hp) : CallEx X lim 12 [.int .i64 n, .int .i64 m] H fun v H1 => v = .int .i64 (n % m) ∧ H1 = H := by
  have hm0 : m ≠ 0 := by omega
  obtain ⟨t1, t2, t3, t4⟩ := tmod_pick n m hm
  by_cases h : n.tmod m < 0
  · have e1 : decide (n.tmod m < 0) = true := by simp [h]
    have hi : IntKind.i64.wrap (n.tmod m + m) = n % m := by rw [IntWalk.i64_in _ (by omega)]; exact t1 h
    (refine call_intro fun12 name12 body12 ?_; simp only [Try.ntmps12, List.map_cons, List.map_nil, List.length_cons, List.length_nil, Nat.zero_add, Nat.reduceAdd, Nat.reduceSub, List.replicate_succ, List.replicate_zero, List.cons_append, List.nil_append])
    refine rS c12_l c12_r rfl ?_
    refine run_region rfl ?_
    simp only [sX, simprocAttr, -List.reduceReplicate]
    refine rS c12_rl c12_rr rfl ?_
    refine run_region rfl ?_
    simp only [sX, simprocAttr, -List.reduceReplicate, bin_rem hm0]
    refine rS c12_rrl c12_rrr rfl ?_
    refine rS c12_rrll c12_rrlr rfl ?_
    refine run_region rfl ?_
    simp only [sX, simprocAttr, -List.reduceReplicate, e1]
    refine rT c12_rrlrt c12_rrlre rfl rfl ?_
    refine run_region rfl ?_
    simp only [sX, simprocAttr, -List.reduceReplicate, hi]
    refine rS c12_rrrl c12_rrrr rfl ?_
    refine run_region rfl ?_
    simp only [sX, simprocAttr, -List.reduceReplicate]
    refine run_ret rfl ?_
    (simp only [sP]; refine ⟨_, (by rw [resultsA_eq Try.results12]; simp only [sR, List.mapM_cons, List.mapM_nil]; rfl), ?_⟩)
    exact ⟨rfl, trivial⟩
  · have e1 : decide (n.tmod m < 0) = false := by simp; omega
    have hi := t2 (by omega)
    (refine call_intro fun12 name12 body12 ?_; simp only [Try.ntmps12, List.map_cons, List.map_nil, List.length_cons, List.length_nil, Nat.zero_add, Nat.reduceAdd, Nat.reduceSub, List.replicate_succ, List.replicate_zero, List.cons_append, List.nil_append])
    refine rS c12_l c12_r rfl ?_
    refine run_region rfl ?_
    simp only [sX, simprocAttr, -List.reduceReplicate]
    refine rS c12_rl c12_rr rfl ?_
    refine run_region rfl ?_
    simp only [sX, simprocAttr, -List.reduceReplicate, bin_rem hm0]
    refine rS c12_rrl c12_rrr rfl ?_
    refine rS c12_rrll c12_rrlr rfl ?_
    refine run_region rfl ?_
    simp only [sX, simprocAttr, -List.reduceReplicate, e1]
    refine rF c12_rrlrt c12_rrlre rfl rfl ?_
    refine run_skip rfl ?_
    simp only [sP]
    refine rS c12_rrrl c12_rrrr rfl ?_
    refine run_region rfl ?_
    simp only [sX, simprocAttr, -List.reduceReplicate]
    refine run_ret rfl ?_
    (simp only [sP]; refine ⟨_, (by rw [resultsA_eq Try.results12]; simp only [sR, List.mapM_cons, List.mapM_nil]; rfl), ?_⟩)
    exact ⟨by rw [hi], trivial⟩
end Go.Proofs.Ytmgofjgfmcmceaa
end
section
namespace Go.Proofs.Ytmgofjgfmcmceaa
open Go.RowKit
set_option maxRecDepth 4000
set_option maxHeartbeats 2000000

/-- A raw tree. -/
inductive Raw where
  | node (k n : Int) (kids : List Raw)
/-- These cells are a raw tree. No list is longer than most. -/
inductive IsRaw (H : Hp) : Raw → List Value → Prop where
  | nil (k n : Int) (c : Nat) : IsRaw H (.node k n []) [.int .i64 k, .int .i64 n, .slice none 0 c]
  | cons (k n : Int) (kids : List Raw) (b off c : Nat) (wr : Bool) (cells : List Value) (hb : getO H b = some ⟨wr, 3, cells⟩) (hl : off + kids.length * 3 ≤ cells.length) (hm : kids.length ≤ 1048576)
      (hk : ∀ (i : Nat) (h : i < kids.length), IsRaw H kids[i] ((cells.drop (off + i * 3)).take 3)) : IsRaw H (.node k n kids) [.int .i64 k, .int .i64 n, .slice (some ⟨b, off, none⟩) kids.length c]
theorem IsRaw.gr {H H1 : Hp} {r : Raw} {cs : List Value} (h : IsRaw H r cs) (hg : Gr H H1) : IsRaw H1 r cs := by
  induction h with
  | nil k n c => exact .nil k n c
  | cons k n kids b off c wr cells hb hl hm hk ih => exact .cons k n kids b off c wr cells ((hg.2 b (getO_lt hb)).trans hb) hl hm ih
theorem IsRe.lt {H : Hp} {S : Nat → Prop} {r : Tr} {cs : List Value} (h : IsRe H S r cs) : IsRe H (fun b => S b ∧ b < H.length) r cs := by
  induction h with
  | nil k s => exact .nil k s
  | cons k s kids b wr css hn hS hl hb hk ih => exact .cons k s kids b wr css hn ⟨hS, getO_lt hb⟩ hl hb ih

/-- What a tree's making has got. -/
def GotT (H : Hp) (h : Nat) (v : Value) (H1 : Hp) : Prop := ∃ (T : Tr) (p : Option Addr) (n : Nat), v = reV T.k T.s p n ∧ IsRe H1 (fun b => H.length ≤ b) T (reC T.k T.s p n) ∧ Gr H H1 ∧ T.ht ≤ h
theorem htL_le {l : List Tr} {h : Nat} (hl : ∀ a ∈ l, a.ht ≤ h) : htL l ≤ h := by
  induction l with
  | nil => simp [htL]
  | cons a l ih =>
    have h1 := hl a (by simp)
    have h2 := ih fun b hb => hl b (by simp [hb])
    simp only [htL]; omega
theorem flatten_len (css : List (List Value)) (h : ∀ c ∈ css, c.length = 6) : css.flatten.length = css.length * 6 := by
  induction css with
  | nil => rfl
  | cons c css ih =>
    have h1 := h c (by simp)
    have h2 := ih fun b hb => h b (by simp [hb])
    simp only [List.flatten_cons, List.length_append, List.length_cons, h1, h2]; omega
theorem reC_cells (k : Int) (s : S4) (p : Option Addr) (n : Nat) : (reC k s p n).all isCell = true := rfl
theorem flatten_cells {H : Hp} {S : Nat → Prop} {Ts : List Tr} {css : List (List Value)} (hl : css.length = Ts.length) (hk : ∀ (i : Nat) (h : i < Ts.length) (h' : i < css.length), IsRe H S Ts[i] css[i]) : css.flatten.all isCell = true ∧ ∀ c ∈ css, c.length = 6 := by
  have h1 : ∀ c ∈ css, c.all isCell = true ∧ c.length = 6 := by
    intro c hc
    obtain ⟨i, hi, rfl⟩ := List.getElem_of_mem hc
    have := hk i (by omega) hi
    obtain ⟨p, hp⟩ := this.form
    exact ⟨by rw [hp]; rfl, this.len⟩
  refine ⟨?_, fun c hc => (h1 c hc).2⟩
  apply List.all_eq_true.mpr
  intro x hx
  obtain ⟨c, hc, hx⟩ := List.mem_flatten.mp hx
  exact List.all_eq_true.mp (h1 c hc).1 x hx

theorem tw_loop (d : Nat) (hd : d ≤ 100) (R : Value → Hp → Prop) (H0 : Hp) (k rk rn : Int) (s : S4) (ks : List Raw) (kb off rc : Nat) (wr : Bool) (cells : List Value)
    (ih : ∀ (r : Raw) (cs : List Value) (lim : Nat) (H : Hp), IsRaw H r cs → CallEx X lim 4 [.agg cs.toArray, .int .i64 d] H (GotT H (d + 1)))
    (hm : ks.length ≤ 1048576) (hl : off + ks.length * 3 ≤ cells.length) (hb0 : getO H0 kb = some ⟨wr, 3, cells⟩) (hk0 : ∀ (i : Nat) (h : i < ks.length), IsRaw H0 ks[i] ((cells.drop (off + i * 3)).take 3)) :
    ∀ (j i : Nat) (Ts : List Tr) (css : List (List Value)) (p : Option Addr) (H : Hp) (t : List TV), i + j = ks.length → Gr H0 H → Ts.length = i → css.length = i → (∀ a ∈ Ts, a.ht ≤ d + 1) →
    ((i = 0 ∧ p = none) ∨ ∃ b, p = some ⟨b, 0, none⟩ ∧ 0 < i ∧ H0.length ≤ b ∧ getO H b = some ⟨true, 6, css.flatten⟩ ∧ ∀ (i : Nat) (h : i < Ts.length) (h' : i < css.length), IsRe H (fun c => H0.length ≤ c ∧ c < b) Ts[i] css[i]) →
    clrF [1, 2, 4, 5, 6] 0 t = (.undef :: .val (.int .i64 ((d + 1 : Nat) : Int)) :: .box [.int .i64 rk, .int .i64 rn, .slice (some ⟨kb, off, none⟩) ks.length rc] :: .undef :: .box [.int .i64 0, .int .u64 0, .int .u64 0, .int .u64 0, .int .u64 0, .slice none 0 0] :: .box (reC k s p i) :: .val (.int .i64 (i : Int)) :: .undef :: .undef :: .undef :: .undef :: .undef :: .undef :: .undef :: .undef :: .undef :: .undef :: .undef :: .undef :: .undef :: .undef :: .undef :: .undef :: .undef :: .undef :: .undef :: .undef :: .undef :: .undef :: .undef :: .undef :: .undef :: .undef :: .undef :: .undef :: .undef :: .undef :: .undef :: .undef :: .undef :: .undef :: .undef :: .undef :: .undef :: .undef :: .undef :: .undef :: .undef :: .undef :: []) →
    (∀ v H1, GotT H0 (d + 2) v H1 → R v H1) →
    RUN X 4 H0.length (fun t1 H1 => ∃ v, resultsA X.P Try.f4 t1 = some v ∧ R v H1) [.blk 0, .code c4_rrrr] (.loop c4_rrrlrbo) t H
  | 0, i, Ts, css, p, H, t, hi, hg, hT, hc, hh, hp, ht, hR => by
    have e1 : decide ((i : Int) < (ks.length : Int)) = false := by simp; omega
    unfold reC at ht
    (refine run_loopk (b := c4_rrrlrbo) rfl keep4_5 ?_; rw [ht])
    refine rS c4_rrrlrbol c4_rrrlrbor rfl ?_
    refine rS c4_rrrlrboll c4_rrrlrbolr rfl ?_
    refine run_regionG rfl c4_rrrlrboll_gs ?_
    simp only [sX, simprocAttr, -List.reduceReplicate, e1]
    refine rF c4_rrrlrbolrt c4_rrrlrbolre rfl rfl ?_
    refine run_exit rfl ?_
    simp only [sP, if_true]
    refine rS c4_rrrrl c4_rrrrr rfl ?_
    refine run_region rfl ?_
    simp only [sX, simprocAttr, -List.reduceReplicate]
    refine run_ret rfl ?_
    (simp only [sP]; refine ⟨_, (by rw [resultsA_eq Try.results4]; simp only [sR, List.mapM_cons, List.mapM_nil, if_true, Nat.reduceAdd]; rfl), ?_⟩)
    refine hR _ _ ⟨.node k s Ts, p, i, rfl, ?_, hg, ?_⟩
    show IsRe H _ (.node k s Ts) (reC k s p i)
    rcases hp with ⟨h0, rfl⟩ | ⟨b, rfl, h0, hb, ho, hk⟩
    have : Ts = [] := List.eq_nil_of_length_eq_zero (by omega)
    subst this; subst h0; exact IsRe.nil k s
    rw [← hT]; exact IsRe.cons k s Ts b true css (fun e => by rw [e] at hT; simp at hT; omega) hb (by omega) ho (fun i h h' => (hk i h h').mono2 (fun c hc => hc.1) (fun _ _ _ => rfl))
    simp only [Tr.ht]; have := htL_le hh; omega
  | j + 1, i, Ts, css, p, H, t, hi, hg, hT, hc, hh, hp, ht, hR => by
    have hi' : i < ks.length := by omega
    have e1 : decide ((i : Int) < (ks.length : Int)) = true := by simp; omega
    have e2 : decide (0 < ((d + 1 : Nat) : Int)) = true := decide_eq_true (by omega)
    have e3 : decide (0 ≤ (i : Int) ∧ (i : Int) < (ks.length : Int)) = true := by simp; omega
    have w1 : IntKind.i64.wrap (((d + 1 : Nat) : Int) - 1) = (d : Int) := by rw [IntWalk.i64_in _ (by omega)]; omega
    have w2 : IntKind.i64.wrap ((i : Int) + 1) = ((i + 1 : Nat) : Int) := by rw [IntWalk.i64_in _ (by omega)]; omega
    have hkb : getO H kb = some ⟨wr, 3, cells⟩ := (hg.2 kb (getO_lt hb0)).trans hb0
    have hkl := getO_lt hkb
    have hle : off + i * 3 + 3 ≤ cells.length := by omega
    have hraw := (hk0 i hi').gr hg
    have hca := ih _ _ H0.length H hraw
    have hcl : H0.length ≤ H.length := hg.1
    unfold reC at ht
    rcases hp with ⟨h0, rfl⟩ | ⟨b, rfl, h0, hb, ho, hk⟩
    · skip
      (refine run_loopk (b := c4_rrrlrbo) rfl keep4_5 ?_; rw [ht])
      refine rS c4_rrrlrbol c4_rrrlrbor rfl ?_
      refine rS c4_rrrlrboll c4_rrrlrbolr rfl ?_
      refine run_regionG rfl c4_rrrlrboll_gs ?_
      simp only [sX, simprocAttr, -List.reduceReplicate, e1, e2]
      refine rT c4_rrrlrbolrt c4_rrrlrbolre rfl rfl ?_
      refine run_skip rfl ?_
      simp only [sP]
      refine rS c4_rrrlrborl c4_rrrlrborr rfl ?_
      refine run_block (b := c4_rrrlrborlb) rfl ?_
      refine run_draw rfl c4_rrrlrborlb_ok c4_rrrlrborlb_dr ?_
      simp only [sX, simprocAttr, -List.reduceReplicate, e3, w1, hkb, hkl, hle]
      refine call_of hca ?_
      rintro v H1 ⟨T, p1, n1, rfl, hT1, hg1, hh1⟩
      unfold reV
      simp only [sX, simprocAttr, -List.reduceReplicate]
      refine append_of_nil h0 el29 sz31 (srcCells_obj getO_append_new rfl) (by decide) (roomOk_of by31 zr31 sz31 rfl (by decide) (by decide)) rfl ?_
      rintro H4 hl4 hk4 hn4
      rw [len_snoc] at hl4 hk4 hn4
      simp only [sX, simprocAttr, -List.reduceReplicate]
      refine run_region rfl ?_
      simp only [sX, simprocAttr, -List.reduceReplicate, w2]
      have hTs : Ts = [] := List.eq_nil_of_length_eq_zero (by omega)
      have hcs : css = [] := List.eq_nil_of_length_eq_zero (by omega)
      subst hTs; subst hcs
      have hg4 : Gr H H4 := ⟨by have := hg1.1; omega, fun c hc => by rw [hk4 c (by have := hg1.1; omega), getO_snoc (by have := hg1.1; omega), hg1.2 c hc]⟩
      have hlg1 := hg1.1
      refine tw_loop d hd R H0 k rk rn s ks kb off rc wr cells ih hm hl hb0 hk0 j (i + 1) [T] [reC T.k T.s p1 n1] (some ⟨H1.length + 1, 0, none⟩) H4 _ (by omega) (hg.trans hg4) (by simp; omega) (by simp; omega) (fun a ha => by simp at ha; subst ha; exact hh1) (.inr ⟨_, rfl, by omega, by omega, by rw [hn4]; rfl, ?_⟩) (by simp only [sC, Nat.reduceBEq, Nat.reduceAdd]; rfl) hR
      intro q hq hq'
      have hq0 : q = 0 := by simp at hq; omega
      subst hq0
      refine hT1.lt.mono2 (fun c hc => ⟨by omega, by omega⟩) (fun c hc _ => by rw [hk4 c (by omega), getO_snoc hc.2])
    · have hfc := flatten_cells (S := fun c => H0.length ≤ c ∧ c < b) (by omega) hk
      have hfl := flatten_len css hfc.2
      have hbl := getO_lt ho
      skip
      (refine run_loopk (b := c4_rrrlrbo) rfl keep4_5 ?_; rw [ht])
      refine rS c4_rrrlrbol c4_rrrlrbor rfl ?_
      refine rS c4_rrrlrboll c4_rrrlrbolr rfl ?_
      refine run_regionG rfl c4_rrrlrboll_gs ?_
      simp only [sX, simprocAttr, -List.reduceReplicate, e1, e2]
      refine rT c4_rrrlrbolrt c4_rrrlrbolre rfl rfl ?_
      refine run_skip rfl ?_
      simp only [sP]
      refine rS c4_rrrlrborl c4_rrrlrborr rfl ?_
      refine run_block (b := c4_rrrlrborlb) rfl ?_
      refine run_draw rfl c4_rrrlrborlb_ok c4_rrrlrborlb_dr ?_
      simp only [sX, simprocAttr, -List.reduceReplicate, e3, w1, hkb, hkl, hle]
      refine call_of hca ?_
      rintro v H1 ⟨T, p1, n1, rfl, hT1, hg1, hh1⟩
      have hlg1 := hg1.1
      unfold reV
      simp only [sX, simprocAttr, -List.reduceReplicate]
      refine append_of el29 sz31 (srcCells_obj getO_append_new rfl) (by decide) (by rw [getO_snoc (by omega), hg1.2 b hbl]; exact ho) hb (by omega) (roomOk_of by31 zr31 sz31 rfl (by omega) (by omega)) hfc.1 rfl ?_
      rintro H4 hl4 hk4 hn4
      rw [len_snoc] at hl4 hk4 hn4
      simp only [sX, simprocAttr, -List.reduceReplicate]
      refine run_region rfl ?_
      simp only [sX, simprocAttr, -List.reduceReplicate, w2]
      have hg4 : ∀ c, c < H.length → c ≠ b → getO H4 c = getO H c := fun c hc hcb => by rw [hk4 c (by omega) hcb, getO_snoc (by omega), hg1.2 c hc]
      refine tw_loop d hd R H0 k rk rn s ks kb off rc wr cells ih hm hl hb0 hk0 j (i + 1) (Ts ++ [T]) (css ++ [reC T.k T.s p1 n1]) (some ⟨H1.length + 1, 0, none⟩) H4 _ (by omega) ⟨by omega, fun c hc => by rw [hg4 c (by omega) (by omega), hg.2 c hc]⟩ (by simp; omega) (by simp; omega) (fun a ha => by rcases List.mem_append.mp ha with ha | ha; exact hh a ha; simp at ha; subst ha; exact hh1) (.inr ⟨_, rfl, by omega, by omega, by rw [hn4]; simp [reC], ?_⟩) (by simp only [sC, Nat.reduceBEq, Nat.reduceAdd]; rfl) hR
      intro q hq hq'
      by_cases hqi : q < i
      · rw [List.getElem_append_left (by omega), List.getElem_append_left (by omega)]; exact (hk q (by omega) (by omega)).mono2 (fun c hc => ⟨hc.1, by omega⟩) (fun c hc hlt => hg4 c hlt (by omega))
      · have hqe : q = i := by simp at hq; omega
        subst hqe
        rw [List.getElem_append_right (by omega), List.getElem_append_right (by omega)]
        simp only [hT, hc, Nat.sub_self, List.getElem_cons_zero]
        exact hT1.lt.mono2 (fun c hc => ⟨by omega, by omega⟩) (fun c hc _ => by rw [hk4 c (by omega) (by omega), getO_snoc hc.2])

/-- From the loop on. -/
def TwTail (d : Nat) : Prop := ∀ (R : Value → Hp → Prop) (H0 : Hp) (k rk rn : Int) (s : S4) (sl : Value) (r : Raw) (t : List TV), IsRaw H0 r [.int .i64 rk, .int .i64 rn, sl] →
    clrF [1, 2, 4, 5, 6] 0 t = (.undef :: .val (.int .i64 (d : Int)) :: .box [.int .i64 rk, .int .i64 rn, sl] :: .undef :: .box [.int .i64 0, .int .u64 0, .int .u64 0, .int .u64 0, .int .u64 0, .slice none 0 0] :: .box (reC k s none 0) :: .val (.int .i64 0) :: .undef :: .undef :: .undef :: .undef :: .undef :: .undef :: .undef :: .undef :: .undef :: .undef :: .undef :: .undef :: .undef :: .undef :: .undef :: .undef :: .undef :: .undef :: .undef :: .undef :: .undef :: .undef :: .undef :: .undef :: .undef :: .undef :: .undef :: .undef :: .undef :: .undef :: .undef :: .undef :: .undef :: .undef :: .undef :: .undef :: .undef :: .undef :: .undef :: .undef :: .undef :: .undef :: []) →
    (∀ v H1, GotT H0 (d + 1) v H1 → R v H1) →
    RUN X 4 H0.length (fun t1 H1 => ∃ v, resultsA X.P Try.f4 t1 = some v ∧ R v H1) [.blk 0, .code c4_rrrr] (.loop c4_rrrlrbo) t H0
theorem gotT_nil (H : Hp) (k : Int) (s : S4) (d : Nat) : GotT H (d + 1) (reV k s none 0) H := ⟨.node k s [], none, 0, rfl, IsRe.nil k s, Gr.refl _, by simp [Tr.ht, htL]⟩
theorem tw_tail (d : Nat) (hd : d ≤ 100) (ih : ∀ d', d = d' + 1 → ∀ (r : Raw) (cs : List Value) (lim : Nat) (H : Hp), IsRaw H r cs → CallEx X lim 4 [.agg cs.toArray, .int .i64 d'] H (GotT H (d' + 1))) : TwTail d := by
  intro R H0 k rk rn s sl r t hr ht hR
  generalize hcs : [Value.int .i64 rk, .int .i64 rn, sl] = cs at hr
  cases hr with
  | nil k' n' c =>
    simp only [List.cons.injEq, and_true, Value.int.injEq, true_and] at hcs
    obtain ⟨_, _, rfl⟩ := hcs
    unfold reC at ht
    (refine run_loopk (b := c4_rrrlrbo) rfl keep4_5 ?_; rw [ht])
    refine rS c4_rrrlrbol c4_rrrlrbor rfl ?_
    refine rS c4_rrrlrboll c4_rrrlrbolr rfl ?_
    refine run_regionG rfl c4_rrrlrboll_gs ?_
    simp only [sX, simprocAttr, -List.reduceReplicate]
    refine rF c4_rrrlrbolrt c4_rrrlrbolre rfl rfl ?_
    refine run_exit rfl ?_
    simp only [sP, if_true]
    refine rS c4_rrrrl c4_rrrrr rfl ?_
    refine run_region rfl ?_
    simp only [sX, simprocAttr, -List.reduceReplicate]
    refine run_ret rfl ?_
    (simp only [sP]; refine ⟨_, (by rw [resultsA_eq Try.results4]; simp only [sR, List.mapM_cons, List.mapM_nil, if_true, Nat.reduceAdd]; rfl), ?_⟩)
    exact hR _ _ (gotT_nil H0 k s d)
  | cons k' n' kids b off c wr cells hb hl hm hk =>
    simp only [List.cons.injEq, and_true, Value.int.injEq, true_and] at hcs
    obtain ⟨_, _, rfl⟩ := hcs
    cases d with
    | zero =>
      have e0 : decide ((0 : Int) < ((0 : Nat) : Int)) = false := by decide
      unfold reC at ht
      by_cases h0 : (0 : Int) < (kids.length : Int)
      · skip
        (refine run_loopk (b := c4_rrrlrbo) rfl keep4_5 ?_; rw [ht])
        refine rS c4_rrrlrbol c4_rrrlrbor rfl ?_
        refine rS c4_rrrlrboll c4_rrrlrbolr rfl ?_
        refine run_regionG rfl c4_rrrlrboll_gs ?_
        simp only [sX, simprocAttr, -List.reduceReplicate, h0]
        refine rF c4_rrrlrbolrt c4_rrrlrbolre rfl rfl ?_
        refine run_exit rfl ?_
        simp only [sP, if_true]
        refine rS c4_rrrrl c4_rrrrr rfl ?_
        refine run_region rfl ?_
        simp only [sX, simprocAttr, -List.reduceReplicate]
        refine run_ret rfl ?_
        (simp only [sP]; refine ⟨_, (by rw [resultsA_eq Try.results4]; simp only [sR, List.mapM_cons, List.mapM_nil, if_true, Nat.reduceAdd]; rfl), ?_⟩)
        exact hR _ _ (gotT_nil H0 k s 0)
      · skip
        (refine run_loopk (b := c4_rrrlrbo) rfl keep4_5 ?_; rw [ht])
        refine rS c4_rrrlrbol c4_rrrlrbor rfl ?_
        refine rS c4_rrrlrboll c4_rrrlrbolr rfl ?_
        refine run_regionG rfl c4_rrrlrboll_gs ?_
        simp only [sX, simprocAttr, -List.reduceReplicate, h0]
        refine rF c4_rrrlrbolrt c4_rrrlrbolre rfl rfl ?_
        refine run_exit rfl ?_
        simp only [sP, if_true]
        refine rS c4_rrrrl c4_rrrrr rfl ?_
        refine run_region rfl ?_
        simp only [sX, simprocAttr, -List.reduceReplicate]
        refine run_ret rfl ?_
        (simp only [sP]; refine ⟨_, (by rw [resultsA_eq Try.results4]; simp only [sR, List.mapM_cons, List.mapM_nil, if_true, Nat.reduceAdd]; rfl), ?_⟩)
        exact hR _ _ (gotT_nil H0 k s 0)
    | succ d =>
      refine tw_loop d (by omega) R H0 k rk rn s kids b off c wr cells (ih d rfl) hm hl hb hk kids.length 0 [] [] none H0 t (by omega) (Gr.refl _) rfl rfl (fun a ha => by cases ha) (.inl ⟨rfl, rfl⟩) ht hR
theorem wrap_word (n : Int) : IntKind.u64.wrap n = ((BitVec.ofInt 64 n).toNat : Int) := by
  rw [IntKind.wrap_u64, BitVec.toNat_ofInt]
  omega
theorem tw_head (d : Nat) (_hd : d ≤ 100) (htl : TwTail d) (r : Raw) (cs : List Value) (lim : Nat) (H : Hp) (hr : IsRaw H r cs) : CallEx X lim 4 [.agg cs.toArray, .int .i64 d] H (GotT H (d + 1)) := by
  have hform : ∃ rk rn sl, cs = [.int .i64 rk, .int .i64 rn, sl] ∧ isCell sl = true := by
    cases hr with
    | nil k n c => exact ⟨k, n, _, rfl, rfl⟩
    | cons k n kids b off c wr cells hb hl hm hk => exact ⟨k, n, _, rfl, rfl⟩
  obtain ⟨rk, rn, sl, rfl, hsl⟩ := hform
  have hp1 : ∃ z : Int, z = rk % 11 ∧ 0 ≤ z ∧ z < 11 := ⟨_, rfl, by omega, by omega⟩
  obtain ⟨z, hz, hz0, hz1⟩ := hp1
  have w1 : IntKind.i64.wrap (z - 1) = z - 1 := IntWalk.i64_in _ (by omega)
  have h3 : (3 : Int) ≠ 0 := by decide
  have ww := wrap_word rn
  have hc3 : ([sl] : List Value).all isCell = true := by simp [hsl]
  by_cases h : rn.tmod 3 = 0
  · have e1 : decide (rn.tmod 3 = 0) = true := by simp [h]
    have hq : rn % 4 = 0 ∨ rn % 4 = 1 ∨ rn % 4 = 2 ∨ rn % 4 = 3 := by omega
    rcases hq with hq | hq | hq | hq
    · (refine call_intro fun4 name4 body4 ?_; simp only [Try.ntmps4, List.map_cons, List.map_nil, List.length_cons, List.length_nil, Nat.zero_add, Nat.reduceAdd, Nat.reduceSub, List.replicate_succ, List.replicate_zero, List.cons_append, List.nil_append])
      refine rS c4_l c4_r rfl ?_
      refine run_region rfl ?_
      simp only [sX, simprocAttr, -List.reduceReplicate, hsl]
      refine rS c4_rl c4_rr rfl ?_
      refine run_region rfl ?_
      simp only [sX, simprocAttr, -List.reduceReplicate]
      refine call_of (pick_ok rk 11 (by decide) (by decide) _ _) ?_
      rintro v H2 ⟨rfl, h2⟩
      subst h2
      rw [← hz]
      simp only [sX, simprocAttr, -List.reduceReplicate, w1]
      refine rS c4_rrl c4_rrr rfl ?_
      refine rS c4_rrll c4_rrlr rfl ?_
      refine run_region rfl ?_
      simp only [sX, simprocAttr, -List.reduceReplicate, bin_rem h3, e1]
      refine rT c4_rrlrt c4_rrlre rfl rfl ?_
      refine run_draw rfl c4_rrlrt_ok c4_rrlrt_dr ?_
      simp only [sX, simprocAttr, -List.reduceReplicate]
      refine call_of (pick_ok rn 4 (by decide) (by decide) _ _) ?_
      rintro v H2 ⟨rfl, h2⟩
      subst h2
      simp only [sX, simprocAttr, -List.reduceReplicate, hq, ww]
      refine rS c4_rrrl c4_rrrr rfl ?_
      refine rS c4_rrrll c4_rrrlr rfl ?_
      refine run_region rfl ?_
      simp only [sX, simprocAttr, -List.reduceReplicate]
      refine run_block (b := c4_rrrlrb) rfl ?_
      simp only [pur4, if_true]
      exact htl _ _ (z - 1) rk rn ⟨BitVec.ofInt 64 rn, 0#64, 0#64, 0#64⟩ sl r _ hr (by simp only [sC, Nat.reduceBEq, Nat.reduceAdd]; rfl) (fun v H1 h => h)
    · (refine call_intro fun4 name4 body4 ?_; simp only [Try.ntmps4, List.map_cons, List.map_nil, List.length_cons, List.length_nil, Nat.zero_add, Nat.reduceAdd, Nat.reduceSub, List.replicate_succ, List.replicate_zero, List.cons_append, List.nil_append])
      refine rS c4_l c4_r rfl ?_
      refine run_region rfl ?_
      simp only [sX, simprocAttr, -List.reduceReplicate, hsl]
      refine rS c4_rl c4_rr rfl ?_
      refine run_region rfl ?_
      simp only [sX, simprocAttr, -List.reduceReplicate]
      refine call_of (pick_ok rk 11 (by decide) (by decide) _ _) ?_
      rintro v H2 ⟨rfl, h2⟩
      subst h2
      rw [← hz]
      simp only [sX, simprocAttr, -List.reduceReplicate, w1]
      refine rS c4_rrl c4_rrr rfl ?_
      refine rS c4_rrll c4_rrlr rfl ?_
      refine run_region rfl ?_
      simp only [sX, simprocAttr, -List.reduceReplicate, bin_rem h3, e1]
      refine rT c4_rrlrt c4_rrlre rfl rfl ?_
      refine run_draw rfl c4_rrlrt_ok c4_rrlrt_dr ?_
      simp only [sX, simprocAttr, -List.reduceReplicate]
      refine call_of (pick_ok rn 4 (by decide) (by decide) _ _) ?_
      rintro v H2 ⟨rfl, h2⟩
      subst h2
      simp only [sX, simprocAttr, -List.reduceReplicate, hq, ww]
      refine rS c4_rrrl c4_rrrr rfl ?_
      refine rS c4_rrrll c4_rrrlr rfl ?_
      refine run_region rfl ?_
      simp only [sX, simprocAttr, -List.reduceReplicate]
      refine run_block (b := c4_rrrlrb) rfl ?_
      simp only [pur4, if_true]
      exact htl _ _ (z - 1) rk rn ⟨0#64, BitVec.ofInt 64 rn, 0#64, 0#64⟩ sl r _ hr (by simp only [sC, Nat.reduceBEq, Nat.reduceAdd]; rfl) (fun v H1 h => h)
    · (refine call_intro fun4 name4 body4 ?_; simp only [Try.ntmps4, List.map_cons, List.map_nil, List.length_cons, List.length_nil, Nat.zero_add, Nat.reduceAdd, Nat.reduceSub, List.replicate_succ, List.replicate_zero, List.cons_append, List.nil_append])
      refine rS c4_l c4_r rfl ?_
      refine run_region rfl ?_
      simp only [sX, simprocAttr, -List.reduceReplicate, hsl]
      refine rS c4_rl c4_rr rfl ?_
      refine run_region rfl ?_
      simp only [sX, simprocAttr, -List.reduceReplicate]
      refine call_of (pick_ok rk 11 (by decide) (by decide) _ _) ?_
      rintro v H2 ⟨rfl, h2⟩
      subst h2
      rw [← hz]
      simp only [sX, simprocAttr, -List.reduceReplicate, w1]
      refine rS c4_rrl c4_rrr rfl ?_
      refine rS c4_rrll c4_rrlr rfl ?_
      refine run_region rfl ?_
      simp only [sX, simprocAttr, -List.reduceReplicate, bin_rem h3, e1]
      refine rT c4_rrlrt c4_rrlre rfl rfl ?_
      refine run_draw rfl c4_rrlrt_ok c4_rrlrt_dr ?_
      simp only [sX, simprocAttr, -List.reduceReplicate]
      refine call_of (pick_ok rn 4 (by decide) (by decide) _ _) ?_
      rintro v H2 ⟨rfl, h2⟩
      subst h2
      simp only [sX, simprocAttr, -List.reduceReplicate, hq, ww]
      refine rS c4_rrrl c4_rrrr rfl ?_
      refine rS c4_rrrll c4_rrrlr rfl ?_
      refine run_region rfl ?_
      simp only [sX, simprocAttr, -List.reduceReplicate]
      refine run_block (b := c4_rrrlrb) rfl ?_
      simp only [pur4, if_true]
      exact htl _ _ (z - 1) rk rn ⟨0#64, 0#64, BitVec.ofInt 64 rn, 0#64⟩ sl r _ hr (by simp only [sC, Nat.reduceBEq, Nat.reduceAdd]; rfl) (fun v H1 h => h)
    · (refine call_intro fun4 name4 body4 ?_; simp only [Try.ntmps4, List.map_cons, List.map_nil, List.length_cons, List.length_nil, Nat.zero_add, Nat.reduceAdd, Nat.reduceSub, List.replicate_succ, List.replicate_zero, List.cons_append, List.nil_append])
      refine rS c4_l c4_r rfl ?_
      refine run_region rfl ?_
      simp only [sX, simprocAttr, -List.reduceReplicate, hsl]
      refine rS c4_rl c4_rr rfl ?_
      refine run_region rfl ?_
      simp only [sX, simprocAttr, -List.reduceReplicate]
      refine call_of (pick_ok rk 11 (by decide) (by decide) _ _) ?_
      rintro v H2 ⟨rfl, h2⟩
      subst h2
      rw [← hz]
      simp only [sX, simprocAttr, -List.reduceReplicate, w1]
      refine rS c4_rrl c4_rrr rfl ?_
      refine rS c4_rrll c4_rrlr rfl ?_
      refine run_region rfl ?_
      simp only [sX, simprocAttr, -List.reduceReplicate, bin_rem h3, e1]
      refine rT c4_rrlrt c4_rrlre rfl rfl ?_
      refine run_draw rfl c4_rrlrt_ok c4_rrlrt_dr ?_
      simp only [sX, simprocAttr, -List.reduceReplicate]
      refine call_of (pick_ok rn 4 (by decide) (by decide) _ _) ?_
      rintro v H2 ⟨rfl, h2⟩
      subst h2
      simp only [sX, simprocAttr, -List.reduceReplicate, hq, ww]
      refine rS c4_rrrl c4_rrrr rfl ?_
      refine rS c4_rrrll c4_rrrlr rfl ?_
      refine run_region rfl ?_
      simp only [sX, simprocAttr, -List.reduceReplicate]
      refine run_block (b := c4_rrrlrb) rfl ?_
      simp only [pur4, if_true]
      exact htl _ _ (z - 1) rk rn ⟨0#64, 0#64, 0#64, BitVec.ofInt 64 rn⟩ sl r _ hr (by simp only [sC, Nat.reduceBEq, Nat.reduceAdd]; rfl) (fun v H1 h => h)
  · have e1 : decide (rn.tmod 3 = 0) = false := by simp [h]
    (refine call_intro fun4 name4 body4 ?_; simp only [Try.ntmps4, List.map_cons, List.map_nil, List.length_cons, List.length_nil, Nat.zero_add, Nat.reduceAdd, Nat.reduceSub, List.replicate_succ, List.replicate_zero, List.cons_append, List.nil_append])
    refine rS c4_l c4_r rfl ?_
    refine run_region rfl ?_
    simp only [sX, simprocAttr, -List.reduceReplicate, hsl]
    refine rS c4_rl c4_rr rfl ?_
    refine run_region rfl ?_
    simp only [sX, simprocAttr, -List.reduceReplicate]
    refine call_of (pick_ok rk 11 (by decide) (by decide) _ _) ?_
    rintro v H2 ⟨rfl, h2⟩
    subst h2
    rw [← hz]
    simp only [sX, simprocAttr, -List.reduceReplicate, w1]
    refine rS c4_rrl c4_rrr rfl ?_
    refine rS c4_rrll c4_rrlr rfl ?_
    refine run_region rfl ?_
    simp only [sX, simprocAttr, -List.reduceReplicate, bin_rem h3, e1]
    refine rF c4_rrlrt c4_rrlre rfl rfl ?_
    refine run_skip rfl ?_
    simp only [sP]
    refine rS c4_rrrl c4_rrrr rfl ?_
    refine rS c4_rrrll c4_rrrlr rfl ?_
    refine run_region rfl ?_
    simp only [sX, simprocAttr, -List.reduceReplicate]
    refine run_block (b := c4_rrrlrb) rfl ?_
    simp only [pur4, if_true]
    exact htl _ _ (z - 1) rk rn S4.z sl r _ hr (by simp only [sC, Nat.reduceBEq, Nat.reduceAdd]; rfl) (fun v H1 h => h)
theorem tw_ok : ∀ (d : Nat), d ≤ 100 → ∀ (r : Raw) (cs : List Value) (lim : Nat) (H : Hp), IsRaw H r cs → CallEx X lim 4 [.agg cs.toArray, .int .i64 d] H (GotT H (d + 1)) := by
  intro d
  induction d with
  | zero => exact fun hd => tw_head 0 hd (tw_tail 0 hd (fun d' h => by omega))
  | succ d ih => exact fun hd => tw_head (d + 1) hd (tw_tail (d + 1) hd (fun d' h => by have h' : d' = d := (by omega); subst h'; exact ih (by omega)))
end Go.Proofs.Ytmgofjgfmcmceaa
end
section
namespace Go.Proofs.Ytmgofjgfmcmceaa
open Go.RowKit
set_option maxRecDepth 4000
set_option maxHeartbeats 2000000

theorem one_a (lim : Nat) (H : Hp) : execCall X 400 lim 14 [.int .u8 97] H = some (reV 1 (S4.z.put 97) none 0, H) := by kernel_rfl
theorem one_b (lim : Nat) (H : Hp) : execCall X 400 lim 14 [.int .u8 98] H = some (reV 1 (S4.z.put 98) none 0, H) := by kernel_rfl
theorem one_c (lim : Nat) (H : Hp) : execCall X 400 lim 14 [.int .u8 99] H = some (reV 1 (S4.z.put 99) none 0, H) := by kernel_rfl
/-- The table of a set of few letters. -/
def tb (c2 c5 : Bool) (i : Nat) : Bool := decide (i = 97) || (decide (i = 98) && c2) || c5
theorem packed_ff (lim : Nat) (H : Hp) : execCall X 400 lim 15 [.agg ((List.range 256).map fun i => .bool (tb false false i)).toArray] H = some (setV (S4.z.put 97), H) := by kernel_rfl
theorem packed_tf (lim : Nat) (H : Hp) : execCall X 400 lim 15 [.agg ((List.range 256).map fun i => .bool (tb true false i)).toArray] H = some (setV ((S4.z.put 97).put 98), H) := by kernel_rfl
theorem packed_ft (lim : Nat) (H : Hp) : execCall X 400 lim 15 [.agg ((List.range 256).map fun i => .bool (tb false true i)).toArray] H = some (setV S4.full, H) := by kernel_rfl
theorem packed_tt (lim : Nat) (H : Hp) : execCall X 400 lim 15 [.agg ((List.range 256).map fun i => .bool (tb true true i)).toArray] H = some (setV S4.full, H) := by kernel_rfl
theorem packed_ok (c2 c5 : Bool) : ∃ s : S4, ∀ (lim : Nat) (H : Hp), CallEx X lim 15 [.agg ((List.range 256).map fun i => .bool (tb c2 c5 i)).toArray] H fun v H1 => v = setV s ∧ H1 = H := by
  cases c2 <;> cases c5
  · exact ⟨_, fun lim H => call_eq (packed_ff lim H) ⟨rfl, rfl⟩⟩
  · exact ⟨_, fun lim H => call_eq (packed_ft lim H) ⟨rfl, rfl⟩⟩
  · exact ⟨_, fun lim H => call_eq (packed_tf lim H) ⟨rfl, rfl⟩⟩
  · exact ⟨_, fun lim H => call_eq (packed_tt lim H) ⟨rfl, rfl⟩⟩
/-- A letter's set. -/
theorem one_ok' (x : Int) (hx : x = 97 ∨ x = 98 ∨ x = 99) : ∃ s : S4, ∀ (lim : Nat) (H : Hp), CallEx X lim 14 [.int .u8 x] H fun v H1 => v = reV 1 s none 0 ∧ H1 = H := by
  rcases hx with rfl | rfl | rfl
  · exact ⟨_, fun lim H => call_eq (one_a lim H) ⟨rfl, rfl⟩⟩
  · exact ⟨_, fun lim H => call_eq (one_b lim H) ⟨rfl, rfl⟩⟩
  · exact ⟨_, fun lim H => call_eq (one_c lim H) ⟨rfl, rfl⟩⟩
end Go.Proofs.Ytmgofjgfmcmceaa
end
section
namespace Go.Proofs.Ytmgofjgfmcmceaa
open Go.RowKit
set_option maxRecDepth 4000
set_option maxHeartbeats 2000000
def slS (P : Program) (ty : TypeId) (v a b : Value) : Option Value := pureNext P (do let r ← Instr.sliceAt ty v (some a) (some b) none; pure (.value r))
section
variable {f : FuncId} {lim n0 : Nat} {Q : List TV → Hp → Prop} {k : List It} {t : List TV} {H : Hp} {l : List GI} {dst : Option Tmp} {ty : TypeId} {pos : String} {af : Array Edge} {gu : Option (Nat × Bool)} {g : Option (Option Tmp × Bool)} {dr : Option (List Nat × Bool × Bool)}
def slV (P : Program) (ty : TypeId) (v : Value) : Option Value → Option Value → Option Value
  | some a, some b => if isScal a && isScal b then slS P ty v a b else none
  | _, _ => none
theorem exe_sliceC {ty1 : TypeId} {s : ByteArray} {lo hi : Operand} : EXE X f lim n0 Q k ⟨⟨dst, .slice ty1 (.const (.string s)) (some lo) (some hi) none, ty, pos, af, gu⟩, g, dr⟩ l t H = SV X f lim n0 Q k ⟨⟨dst, .slice ty1 (.const (.string s)) (some lo) (some hi) none, ty, pos, af, gu⟩, g, dr⟩ l t H (slV X.P ty1 (.string s) (evv X t lo) (evv X t hi)) := by
  rw [SV_FR]
  refine EXE_r fun call => ?_
  have h1 : evv X t (.const (.string s)) = some (.string s) := rfl
  have h2 : rho X t (.const (.string s)) = .string s := rfl
  have hs : ∀ z : Operand, evs X t z = (evv X t z).bind fun v => if isScal v then some v else none := by
    intro z
    unfold evs evv
    cases ev X t z <;> rfl
  have hr : ∀ (z : Operand) (v : Value), evv X t z = some v → rho X t z = v := by
    intro z v h; unfold rho; rw [h]; rfl
  simp only [stepOp, h1, Option.all_some, hs]
  cases ha : evv X t lo with
  | none => cases evv X t hi <;> rfl
  | some a =>
    cases hb : evv X t hi with
    | none => by_cases hsa : isScal a = true <;> simp [slV, hsa]
    | some b =>
      have hexec : execOp (rho X t) ⟨dst, .slice ty1 (.const (.string s)) (some lo) (some hi) none, ty, pos, af, gu⟩ = (do let r ← Instr.sliceAt ty1 (.string s) (some a) (some b) none; pure (.value r)) := by
        simp only [execOp, h2, Option.map_some, Option.map_none, hr lo a ha, hr hi b hb]
      simp only [Option.bind_some, slV]
      by_cases hsa : isScal a = true <;> by_cases hsb : isScal b = true <;> simp [hexec, slS, hsa, hsb]
end
def lets : ByteArray := ⟨#[97, 97, 98, 98, 99, 49, 10, 65]⟩
theorem sl_lit (r : Nat) (hr : r < 8) : ∃ c : UInt8, slS X.P 9 (.string lets) (.int .u8 (r : Int)) (.int .u8 ((r + 1 : Nat) : Int)) = some (.string (bs [c])) := by
  have : r = 0 ∨ r = 1 ∨ r = 2 ∨ r = 3 ∨ r = 4 ∨ r = 5 ∨ r = 6 ∨ r = 7 := by omega
  rcases this with rfl | rfl | rfl | rfl | rfl | rfl | rfl | rfl
  · exact ⟨97, by kernel_rfl⟩
  · exact ⟨97, by kernel_rfl⟩
  · exact ⟨98, by kernel_rfl⟩
  · exact ⟨98, by kernel_rfl⟩
  · exact ⟨99, by kernel_rfl⟩
  · exact ⟨49, by kernel_rfl⟩
  · exact ⟨10, by kernel_rfl⟩
  · exact ⟨65, by kernel_rfl⟩

theorem let_loop (lim : Nat) (R : Value → Hp → Prop) (H : Hp) (sv : Value) (bb off c n : Nat) (wr : Bool) (cells : List Value) (hb : getO H bb = some ⟨wr, 1, cells⟩) (hl : off + n ≤ cells.length) (hn : n ≤ 1048576) (hc : ∀ i, i < n → ∃ y : Nat, y < 256 ∧ cells[off + i]? = some (.int .u8 (y : Int)))
    (hR : ∀ x : List UInt8, x.length ≤ 10 → R (.string (bs x)) H) : ∀ (j i : Nat) (acc : List UInt8) (t : List TV), i + j = 10 → acc.length = i → i ≤ n →
    clrF [0, 1, 5, 6] 0 t = (.val (.slice (some ⟨bb, off, none⟩) n c) :: .val (.int .i64 10) :: .undef :: .undef :: .undef :: .val (.string (bs acc)) :: .val (.int .i64 (i : Int)) :: .undef :: .undef :: .undef :: .undef :: .undef :: .undef :: .undef :: .undef :: .undef :: .undef :: .undef :: .undef :: .undef :: .undef :: .undef :: .undef :: .undef :: .undef :: .undef :: .undef :: .undef :: .undef :: .undef :: .undef :: .undef :: .undef :: []) →
    RUN X 10 lim (fun t1 H1 => ∃ v, resultsA X.P Try.f10 t1 = some v ∧ R v H1) [.blk 0, .code c10_rrr] (.loop c10_rrlrbo) t H
  | 0, i, acc, t, hi, ha, hin, ht => by
    have e2 : decide ((i : Int) < 10) = false := by simp; omega
    by_cases h : i < n
    · have e1 : decide ((i : Int) < (n : Int)) = true := by simp; omega
      (refine run_loopk (b := c10_rrlrbo) rfl keep10_3 ?_; rw [ht])
      refine rS c10_rrlrbol c10_rrlrbor rfl ?_
      refine rS c10_rrlrboll c10_rrlrbolr rfl ?_
      refine run_regionG rfl c10_rrlrboll_gs ?_
      simp only [sX, simprocAttr, -List.reduceReplicate, e1, e2]
      refine rF c10_rrlrbolrt c10_rrlrbolre rfl rfl ?_
      refine run_exit rfl ?_
      simp only [sP, if_true]
      refine rS c10_rrrl c10_rrrr rfl ?_
      refine run_region rfl ?_
      simp only [sX, simprocAttr, -List.reduceReplicate]
      refine run_ret rfl ?_
      (simp only [sP]; refine ⟨_, (by rw [resultsA_eq Try.results10]; simp only [sR, List.mapM_cons, List.mapM_nil]; rfl), ?_⟩)
      exact hR acc (by omega)
    · have e1 : decide ((i : Int) < (n : Int)) = false := by simp; omega
      (refine run_loopk (b := c10_rrlrbo) rfl keep10_3 ?_; rw [ht])
      refine rS c10_rrlrbol c10_rrlrbor rfl ?_
      refine rS c10_rrlrboll c10_rrlrbolr rfl ?_
      refine run_regionG rfl c10_rrlrboll_gs ?_
      simp only [sX, simprocAttr, -List.reduceReplicate, e1]
      refine rF c10_rrlrbolrt c10_rrlrbolre rfl rfl ?_
      refine run_exit rfl ?_
      simp only [sP, if_true]
      refine rS c10_rrrl c10_rrrr rfl ?_
      refine run_region rfl ?_
      simp only [sX, simprocAttr, -List.reduceReplicate]
      refine run_ret rfl ?_
      (simp only [sP]; refine ⟨_, (by rw [resultsA_eq Try.results10]; simp only [sR, List.mapM_cons, List.mapM_nil]; rfl), ?_⟩)
      exact hR acc (by omega)
  | j + 1, i, acc, t, hi, ha, hin, ht => by
    by_cases h : i < n
    · have e1 : decide ((i : Int) < (n : Int)) = true := by simp; omega
      have e2 : decide ((i : Int) < 10) = true := by simp; omega
      have e3 : decide (0 ≤ (i : Int) ∧ (i : Int) < (n : Int)) = true := by simp; omega
      have w1 : IntKind.i64.wrap ((i : Int) + 1) = ((i + 1 : Nat) : Int) := by rw [IntWalk.i64_in _ (by omega)]; omega
      obtain ⟨y, hy, hcy⟩ := hc i h
      have hblt := getO_lt hb
      have h8 : (8 : Int) ≠ 0 := by decide
      have m1 : (y : Int).tmod 8 = ((y % 8 : Nat) : Int) := by rw [Int.tmod_eq_emod_of_nonneg (by omega)]; omega
      have w2 : IntKind.u8.wrap (((y % 8 : Nat) : Int) + 1) = ((y % 8 + 1 : Nat) : Int) := by rw [IntWalk.u8_in _ (by omega)]; omega
      obtain ⟨ch, hch⟩ := sl_lit (y % 8) (by omega)
      have hch' : slS X.P 9 (.string ⟨#[97, 97, 98, 98, 99, 49, 10, 65]⟩) (.int .u8 ((y % 8 : Nat) : Int)) (.int .u8 ((y % 8 + 1 : Nat) : Int)) = some (.string (bs [ch])) := hch
      have hsa := sadd acc [ch] (by simp; omega)
      (refine run_loopk (b := c10_rrlrbo) rfl keep10_3 ?_; rw [ht])
      refine rS c10_rrlrbol c10_rrlrbor rfl ?_
      refine rS c10_rrlrboll c10_rrlrbolr rfl ?_
      refine run_regionG rfl c10_rrlrboll_gs ?_
      simp only [sX, simprocAttr, -List.reduceReplicate, e1, e2]
      refine rT c10_rrlrbolrt c10_rrlrbolre rfl rfl ?_
      refine run_skip rfl ?_
      simp only [sP]
      refine rS c10_rrlrborl c10_rrlrborr rfl ?_
      refine run_block (b := c10_rrlrborlb) rfl ?_
      refine run_draw rfl c10_rrlrborlb_ok c10_rrlrborlb_dr ?_
      simp only [sX, simprocAttr, -List.reduceReplicate, e3, w2, hb, hblt, hcy, bin_rem h8, m1, exe_sliceC, slV, isScal, hch', hsa]
      refine run_region rfl ?_
      simp only [sX, simprocAttr, -List.reduceReplicate, w1]
      exact let_loop lim R H sv bb off c n wr cells hb hl hn hc hR j (i + 1) (acc ++ [ch]) _ (by omega) (by simp [ha]) (by omega) (by simp only [sC, Nat.reduceBEq, Nat.reduceAdd])
    · have e1 : decide ((i : Int) < (n : Int)) = false := by simp; omega
      (refine run_loopk (b := c10_rrlrbo) rfl keep10_3 ?_; rw [ht])
      refine rS c10_rrlrbol c10_rrlrbor rfl ?_
      refine rS c10_rrlrboll c10_rrlrbolr rfl ?_
      refine run_regionG rfl c10_rrlrboll_gs ?_
      simp only [sX, simprocAttr, -List.reduceReplicate, e1]
      refine rF c10_rrlrbolrt c10_rrlrbolre rfl rfl ?_
      refine run_exit rfl ?_
      simp only [sP, if_true]
      refine rS c10_rrrl c10_rrrr rfl ?_
      refine run_region rfl ?_
      simp only [sX, simprocAttr, -List.reduceReplicate]
      refine run_ret rfl ?_
      (simp only [sP]; refine ⟨_, (by rw [resultsA_eq Try.results10]; simp only [sR, List.mapM_cons, List.mapM_nil]; rfl), ?_⟩)
      exact hR acc (by omega)

/-- These cells are a text of bytes. -/
def IsBytes (H : Hp) (v : Value) : Prop := (∃ c, v = .slice none 0 c) ∨ ∃ (bb off c n : Nat) (wr : Bool) (cells : List Value), v = .slice (some ⟨bb, off, none⟩) n c ∧ getO H bb = some ⟨wr, 1, cells⟩ ∧ off + n ≤ cells.length ∧ n ≤ 1048576 ∧ ∀ i, i < n → ∃ y : Nat, y < 256 ∧ cells[off + i]? = some (.int .u8 (y : Int))
theorem IsBytes.gr {H H1 : Hp} {v : Value} (h : IsBytes H v) (hg : Gr H H1) : IsBytes H1 v := by
  rcases h with h | ⟨bb, off, c, n, wr, cells, h1, h2, h3⟩
  · exact .inl h
  · exact .inr ⟨bb, off, c, n, wr, cells, h1, (hg.2 bb (getO_lt h2)).trans h2, h3⟩
theorem letters_ok (lim : Nat) (H : Hp) (v : Value) (h : IsBytes H v) : CallEx X lim 10 [v, .int .i64 10] H fun v' H1 => ∃ x : List UInt8, x.length ≤ 10 ∧ v' = .string (bs x) ∧ H1 = H := by
  rcases h with ⟨c, rfl⟩ | ⟨bb, off, c, n, wr, cells, rfl, hb, hl, hn, hc⟩
  · (refine call_intro fun10 name10 body10 ?_; simp only [Try.ntmps10, List.map_cons, List.map_nil, List.length_cons, List.length_nil, Nat.zero_add, Nat.reduceAdd, Nat.reduceSub, List.replicate_succ, List.replicate_zero, List.cons_append, List.nil_append])
    refine rS c10_l c10_r rfl ?_
    refine run_region rfl ?_
    simp only [sX, simprocAttr, -List.reduceReplicate]
    refine rS c10_rl c10_rr rfl ?_
    refine run_region rfl ?_
    simp only [sX, simprocAttr, -List.reduceReplicate]
    refine rS c10_rrl c10_rrr rfl ?_
    refine rS c10_rrll c10_rrlr rfl ?_
    refine run_region rfl ?_
    simp only [sX, simprocAttr, -List.reduceReplicate]
    refine run_block (b := c10_rrlrb) rfl ?_
    (refine run_loopk (b := c10_rrlrbo) rfl keep10_3 ?_; simp only [sC, Nat.reduceBEq, Nat.reduceAdd])
    refine rS c10_rrlrbol c10_rrlrbor rfl ?_
    refine rS c10_rrlrboll c10_rrlrbolr rfl ?_
    refine run_regionG rfl c10_rrlrboll_gs ?_
    simp only [sX, simprocAttr, -List.reduceReplicate]
    refine rF c10_rrlrbolrt c10_rrlrbolre rfl rfl ?_
    refine run_exit rfl ?_
    simp only [sP, if_true]
    refine rS c10_rrrl c10_rrrr rfl ?_
    refine run_region rfl ?_
    simp only [sX, simprocAttr, -List.reduceReplicate]
    refine run_ret rfl ?_
    (simp only [sP]; refine ⟨_, (by rw [resultsA_eq Try.results10]; simp only [sR, List.mapM_cons, List.mapM_nil]; rfl), ?_⟩)
    exact ⟨[], by decide, rfl, trivial⟩
  · (refine call_intro fun10 name10 body10 ?_; simp only [Try.ntmps10, List.map_cons, List.map_nil, List.length_cons, List.length_nil, Nat.zero_add, Nat.reduceAdd, Nat.reduceSub, List.replicate_succ, List.replicate_zero, List.cons_append, List.nil_append])
    refine rS c10_l c10_r rfl ?_
    refine run_region rfl ?_
    simp only [sX, simprocAttr, -List.reduceReplicate]
    refine rS c10_rl c10_rr rfl ?_
    refine run_region rfl ?_
    simp only [sX, simprocAttr, -List.reduceReplicate]
    refine rS c10_rrl c10_rrr rfl ?_
    refine rS c10_rrll c10_rrlr rfl ?_
    refine run_region rfl ?_
    simp only [sX, simprocAttr, -List.reduceReplicate]
    refine run_block (b := c10_rrlrb) rfl ?_
    exact let_loop _ _ H .nilIface bb off c n wr cells hb hl hn hc (fun x hx => ⟨x, hx, rfl, rfl⟩) 10 0 [] _ rfl rfl (Nat.zero_le _) (by simp only [sC, Nat.reduceBEq, Nat.reduceAdd]; rfl)
end Go.Proofs.Ytmgofjgfmcmceaa
end
section
namespace Go.Proofs.Ytmgofjgfmcmceaa
open Go.RowKit
set_option maxRecDepth 4000
set_option maxHeartbeats 2000000
section
variable {X : Ctx} {f : FuncId} {lim n0 : Nat} {Q : List TV → Hp → Prop} {k : List It} {t : List TV} {H : Hp} {l : List GI} {dst : Option Tmp} {ty : TypeId} {pos : String} {af : Array Edge} {gu : Option (Nat × Bool)} {g : Option (Option Tmp × Bool)} {dr : Option (List Nat × Bool × Bool)}
def isPt : Value → Bool
  | .pointer (some ⟨_, _, none⟩) => true
  | _ => false
def mkFn (fn : Fn) : Option (List Value) → Option Value
  | some vs => if vs.all isPt then some (.func fn #[] vs.toArray) else none
  | none => none
theorem exe_makeFunc {fn : Fn} {cap : Array Operand} : EXE X f lim n0 Q k ⟨⟨dst, .makeFunc fn #[] cap, ty, pos, af, gu⟩, g, dr⟩ l t H = SV X f lim n0 Q k ⟨⟨dst, .makeFunc fn #[] cap, ty, pos, af, gu⟩, g, dr⟩ l t H (mkFn fn (cap.toList.mapM (evv X t))) := by
  rw [SV_FR]
  refine EXE_r fun call => ?_
  simp only [stepOp]
  cases cap.toList.mapM (evv X t) with
  | none => rfl
  | some vs =>
    simp only [mkFn]
    change (if (vs.all _) = true then some (TV.val (Value.func fn #[] vs.toArray), t, H) else none) = _
    split
    · rename_i h
      rw [if_pos (show vs.all isPt = true from h)]; rfl
    · rename_i h
      rw [if_neg (show ¬ vs.all isPt = true from h)]; rfl
end
theorem abc_ix (r : Int) (h : r = 0 ∨ r = 1 ∨ r = 2) : ∃ c : Int, (c = 97 ∨ c = 98 ∨ c = 99) ∧ strIx ⟨#[97, 98, 99]⟩ r = some (.int .u8 c) := by
  rcases h with rfl | rfl | rfl
  · exact ⟨97, .inl rfl, rfl⟩
  · exact ⟨98, .inr (.inl rfl), rfl⟩
  · exact ⟨99, .inr (.inr rfl), rfl⟩
theorem ab_ix (r : Int) (h : r = 0 ∨ r = 1) : ∃ c : Int, (c = 97 ∨ c = 98 ∨ c = 99) ∧ strIx ⟨#[97, 98]⟩ r = some (.int .u8 c) := by
  rcases h with rfl | rfl
  · exact ⟨97, .inl rfl, rfl⟩
  · exact ⟨98, .inr (.inl rfl), rfl⟩

def RePost (d : Nat) : Prop := ∀ (r : Raw) (cs : List Value) (lim : Nat) (H : Hp), IsRaw H r cs → CallEx X lim 5 [.agg cs.toArray, .int .i64 d] H (GotT H (d + 1))
theorem gotT_leaf (H H1 : Hp) (hg : Gr H H1) (k : Int) (s : S4) (d : Nat) : GotT H (d + 1) (reV k s none 0) H1 := ⟨.node k s [], none, 0, rfl, IsRe.nil k s, hg, by simp [Tr.ht, htL]⟩
/-- A kid. -/
theorem kid_ok (d : Nat) (hd : d ≤ 100) (ih : ∀ d', d = d' + 1 → RePost d') (r : Raw) (rk rn : Int) (sl : Value) (lim : Nat) (H : Hp) (b2 b3 : Nat) (w2 w3 : Bool) (i : Nat) (_hi : i ≤ 1) (h2 : getO H b2 = some ⟨w2, 0, [.int .i64 rk, .int .i64 rn, sl]⟩) (h3 : getO H b3 = some ⟨w3, 0, [.int .i64 d]⟩) (hr : IsRaw H r [.int .i64 rk, .int .i64 rn, sl]) (hd1 : 1 ≤ d) :
    CallEx X lim 13 [.int .i64 i, .pointer (some ⟨b2, 0, none⟩), .pointer (some ⟨b3, 0, none⟩)] H (GotT H d) := by
  obtain ⟨d', rfl⟩ : ∃ d', d = d' + 1 := ⟨d - 1, by omega⟩
  have l2 := getO_lt h2
  have l3 := getO_lt h3
  generalize hcs : [Value.int .i64 rk, .int .i64 rn, sl] = cs at hr
  obtain ⟨ch, hch, hix⟩ := ab_ix (IntKind.i64.wrap (rn + i) % 2) (by omega)
  obtain ⟨so, hso⟩ := one_ok' ch hch
  have e0 : decide (0 < ((d' + 1 : Nat) : Int)) = true := decide_eq_true (by omega)
  have w1 : IntKind.i64.wrap (((d' + 1 : Nat) : Int) - 1) = (d' : Int) := by rw [IntWalk.i64_in _ (by omega)]; omega
  cases hr with
  | nil k' n' c =>
    simp only [List.cons.injEq, and_true, Value.int.injEq, true_and] at hcs
    obtain ⟨_, _, rfl⟩ := hcs
    have e1 : decide ((i : Int) < 0) = false := by simp
    (refine call_intro fun13 name13 body13 ?_; simp only [Try.ntmps13, List.map_cons, List.map_nil, List.length_cons, List.length_nil, Nat.zero_add, Nat.reduceAdd, Nat.reduceSub, List.replicate_succ, List.replicate_zero, List.cons_append, List.nil_append])
    refine rS c13_l c13_r rfl ?_
    refine run_region rfl ?_
    simp only [sX, simprocAttr, -List.reduceReplicate]
    refine rS c13_rl c13_rr rfl ?_
    refine rS c13_rll c13_rlr rfl ?_
    refine run_regionG rfl c13_rll_gs ?_
    simp only [sX, simprocAttr, -List.reduceReplicate, h2, e1]
    refine rF c13_rlrt c13_rlre rfl rfl ?_
    refine run_skip rfl ?_
    simp only [sP]
    refine rS c13_rrl c13_rrr rfl ?_
    refine run_region rfl ?_
    simp only [sX, simprocAttr, -List.reduceReplicate, h2]
    refine call_of (pick_ok _ 2 (by decide) (by decide) _ _) ?_
    rintro v H2 ⟨rfl, hh⟩
    subst hh
    simp only [sX, simprocAttr, -List.reduceReplicate, hix]
    refine call_of (hso _ _) ?_
    rintro v H2 ⟨rfl, hh⟩
    subst hh
    unfold reV
    simp only [sX, simprocAttr, -List.reduceReplicate]
    refine run_ret rfl ?_
    (simp only [sP]; refine ⟨_, (by rw [resultsA_eq Try.results13]; simp only [sR, List.mapM_cons, List.mapM_nil, if_true, Nat.reduceAdd]; rfl), ?_⟩)
    exact gotT_leaf _ _ (Gr.refl _) 1 so d'
  | cons k' n' kids b off c wr cells hb hl hm hk =>
    simp only [List.cons.injEq, and_true, Value.int.injEq, true_and] at hcs
    obtain ⟨_, _, rfl⟩ := hcs
    have lb := getO_lt hb
    by_cases hin : i < kids.length
    · have e1 : decide ((i : Int) < (kids.length : Int)) = true := by simp; omega
      have e3 : decide (0 ≤ (i : Int) ∧ (i : Int) < (kids.length : Int)) = true := by simp; omega
      have hle : off + i * 3 + 3 ≤ cells.length := by omega
      have hc := ih d' rfl _ _ (if X.pur 13 = true then H.length else lim) H (hk i hin)
      (refine call_intro fun13 name13 body13 ?_; simp only [Try.ntmps13, List.map_cons, List.map_nil, List.length_cons, List.length_nil, Nat.zero_add, Nat.reduceAdd, Nat.reduceSub, List.replicate_succ, List.replicate_zero, List.cons_append, List.nil_append])
      refine rS c13_l c13_r rfl ?_
      refine run_region rfl ?_
      simp only [sX, simprocAttr, -List.reduceReplicate]
      refine rS c13_rl c13_rr rfl ?_
      refine rS c13_rll c13_rlr rfl ?_
      refine run_regionG rfl c13_rll_gs ?_
      simp only [sX, simprocAttr, -List.reduceReplicate, h2, h3, e1, e0]
      refine rT c13_rlrt c13_rlre rfl rfl ?_
      refine rS c13_rlrtl c13_rlrtr rfl ?_
      refine run_draw rfl c13_rlrtl_ok c13_rlrtl_dr ?_
      simp only [sX, simprocAttr, -List.reduceReplicate, h2, h3, l2, l3, e3, hb, lb, hle, w1]
      refine call_of (ih d' rfl _ _ _ H (hk i hin)) ?_
      rintro v H1 ⟨T, p1, n1, rfl, hT1, hg1, hh1⟩
      unfold reV
      simp only [sX, simprocAttr, -List.reduceReplicate]
      refine run_ret rfl ?_
      (simp only [sP]; refine ⟨_, (by rw [resultsA_eq Try.results13]; simp only [sR, List.mapM_cons, List.mapM_nil, if_true, Nat.reduceAdd]; rfl), ?_⟩)
      exact ⟨T, p1, n1, rfl, hT1, hg1, hh1⟩
    · have e1 : decide ((i : Int) < (kids.length : Int)) = false := by simp; omega
      (refine call_intro fun13 name13 body13 ?_; simp only [Try.ntmps13, List.map_cons, List.map_nil, List.length_cons, List.length_nil, Nat.zero_add, Nat.reduceAdd, Nat.reduceSub, List.replicate_succ, List.replicate_zero, List.cons_append, List.nil_append])
      refine rS c13_l c13_r rfl ?_
      refine run_region rfl ?_
      simp only [sX, simprocAttr, -List.reduceReplicate]
      refine rS c13_rl c13_rr rfl ?_
      refine rS c13_rll c13_rlr rfl ?_
      refine run_regionG rfl c13_rll_gs ?_
      simp only [sX, simprocAttr, -List.reduceReplicate, h2, e1]
      refine rF c13_rlrt c13_rlre rfl rfl ?_
      refine run_skip rfl ?_
      simp only [sP]
      refine rS c13_rrl c13_rrr rfl ?_
      refine run_region rfl ?_
      simp only [sX, simprocAttr, -List.reduceReplicate, h2]
      refine call_of (pick_ok _ 2 (by decide) (by decide) _ _) ?_
      rintro v H2 ⟨rfl, hh⟩
      subst hh
      simp only [sX, simprocAttr, -List.reduceReplicate, hix]
      refine call_of (hso _ _) ?_
      rintro v H2 ⟨rfl, hh⟩
      subst hh
      unfold reV
      simp only [sX, simprocAttr, -List.reduceReplicate]
      refine run_ret rfl ?_
      (simp only [sP]; refine ⟨_, (by rw [resultsA_eq Try.results13]; simp only [sR, List.mapM_cons, List.mapM_nil, if_true, Nat.reduceAdd]; rfl), ?_⟩)
      exact gotT_leaf _ _ (Gr.refl _) 1 so d'

theorem got1 (H H1 H2 : Hp) (h01 : Gr H H1) (k : Int) (d : Nat) {T : Tr} {p : Option Addr} {n : Nat} (hT : IsRe H2 (fun b => H1.length ≤ b) T (reC T.k T.s p n)) (hg : Gr H1 H2) (hh : T.ht ≤ d) :
    GotT H (d + 1) (reV k S4.z (some ⟨H2.length, 0, none⟩) 1) (H2 ++ [some ⟨true, 6, reC T.k T.s p n⟩]) := by
  have h1 := h01.1
  have h2 := hg.1
  refine ⟨.node k S4.z [T], _, 1, rfl, ?_, (h01.trans hg).trans (Gr.snoc _ _), by simp [Tr.ht, htL]; omega⟩
  refine IsRe.cons k S4.z [T] H2.length true [reC T.k T.s p n] (by simp) (by omega) rfl (by rw [getO_append_new]; simp) ?_
  intro i hi hi'
  match i, hi, hi' with
  | 0, _, _ => exact (hT.mono2 (fun b hb => Nat.le_trans h1 hb) (fun _ _ _ => rfl)).app _
theorem got2 (H H1 H2 H3 : Hp) (h01 : Gr H H1) (k : Int) (d : Nat) {T U : Tr} {p q : Option Addr} {n m : Nat} (hT : IsRe H2 (fun b => H1.length ≤ b) T (reC T.k T.s p n)) (hg : Gr H1 H2) (hh : T.ht ≤ d) (hU : IsRe H3 (fun b => H2.length ≤ b) U (reC U.k U.s q m)) (hg2 : Gr H2 H3) (hu : U.ht ≤ d) :
    GotT H (d + 1) (reV k S4.z (some ⟨H3.length, 0, none⟩) 2) (H3 ++ [some ⟨true, 6, reC T.k T.s p n ++ reC U.k U.s q m⟩]) := by
  have h1 := h01.1
  have h2 := hg.1
  have h3 := hg2.1
  refine ⟨.node k S4.z [T, U], _, 2, rfl, ?_, ((h01.trans hg).trans hg2).trans (Gr.snoc _ _), by simp [Tr.ht, htL]; omega⟩
  refine IsRe.cons k S4.z [T, U] H3.length true [reC T.k T.s p n, reC U.k U.s q m] (by simp) (by omega) rfl (by rw [getO_append_new]; simp) ?_
  intro i hi hi'
  match i, hi, hi' with
  | 0, _, _ => exact (((hT.gr hg2).mono2 (fun b hb => Nat.le_trans h1 hb) (fun _ _ _ => rfl)).app _)
  | 1, _, _ => exact ((hU.mono2 (fun b hb => Nat.le_trans h1 (Nat.le_trans h2 hb)) (fun _ _ _ => rfl)).app _)

/-- The table as far as it is filled. -/
def tbR (c2 c5 : Bool) (i : Nat) : List Value := ((List.range i).map fun j => Value.bool (tb c2 c5 j)) ++ List.replicate (256 - i) (.bool false)
theorem tbR_len (c2 c5 : Bool) (i : Nat) (h : i ≤ 256) : (tbR c2 c5 i).length = 256 := by simp [tbR]; omega
theorem tbR_set (c2 c5 : Bool) (i : Nat) (h : i < 256) : (tbR c2 c5 i).set i (.bool (tb c2 c5 i)) = tbR c2 c5 (i + 1) := by
  unfold tbR
  have : 256 - i = (256 - (i + 1)) + 1 := by omega
  rw [this, List.replicate_succ, List.range_succ, List.map_append, List.map_cons, List.map_nil]
  rw [List.set_append_right _ _ (by simp)]
  simp
theorem tbR_end (c2 c5 : Bool) : tbR c2 c5 256 = (List.range 256).map fun j => Value.bool (tb c2 c5 j) := by simp [tbR]
theorem tbl_loop (lim : Nat) (R : Value → Hp → Prop) (H : Hp) (rk rn : Int) (sl : Value) (b2 b3 : Nat) (d : Nat) (g2 : getO H b2 = some ⟨true, 0, [.int .i64 rk, .int .i64 rn, sl]⟩) (hR : ∀ (s : S4) (H1 : Hp), Gr H H1 → R (reV 1 s none 0) H1) :
    ∀ (j i : Nat) (t : List TV), i + j = 256 →
    clrF [2, 4, 7, 8] 0 t = (.undef :: .undef :: .val (.pointer (some ⟨b2, 0, none⟩)) :: .undef :: .box [.int .i64 0, .int .u64 0, .int .u64 0, .int .u64 0, .int .u64 0, .slice none 0 0] :: .undef :: .undef :: .box (tbR (decide (rn.tmod 2 = 0)) (decide (rn.tmod 5 = 0)) i) :: .val (.int .i64 (i : Int)) :: .undef :: .undef :: .undef :: .undef :: .undef :: .undef :: .undef :: .undef :: .undef :: .undef :: .undef :: .undef :: .undef :: .undef :: .undef :: .undef :: .undef :: .undef :: .undef :: .undef :: .undef :: .undef :: .undef :: .undef :: .undef :: .undef :: .undef :: .undef :: .undef :: .undef :: .undef :: .undef :: .undef :: .undef :: .undef :: .undef :: .undef :: .undef :: .undef :: .undef :: .undef :: .undef :: .undef :: .undef :: .undef :: .undef :: .undef :: .undef :: .undef :: .undef :: .undef :: .undef :: .undef :: .undef :: .undef :: .undef :: .undef :: .undef :: .undef :: .undef :: .undef :: .undef :: .undef :: .undef :: .undef :: .undef :: .undef :: .undef :: .undef :: .undef :: .undef :: .undef :: .undef :: .undef :: .undef :: .undef :: .undef :: .undef :: .undef :: .undef :: .undef :: .undef :: .undef :: .undef :: .undef :: .undef :: .undef :: .undef :: .undef :: .undef :: .undef :: .undef :: .undef :: .undef :: .undef :: .undef :: .undef :: []) →
    RUN X 5 lim (fun t1 H1 => ∃ v, resultsA X.P Try.f5 t1 = some v ∧ R v H1) [.blk 1, .code c5_rrrrlrbrerererererertrr, .blk 0, .code c5_rrrrr] (.loop c5_rrrrlrbrerererererertrlrbo) t H
  | 0, i, t, hi, ht => by
    have e1 : decide ((i : Int) < 256) = false := by simp; omega
    have hi' : i = 256 := by omega
    subst hi'
    rw [tbR_end] at ht
    obtain ⟨s, hs⟩ := packed_ok (decide (rn.tmod 2 = 0)) (decide (rn.tmod 5 = 0))
    have hlen : ((List.range 256).map fun j => Value.bool (tb (decide (rn.tmod 2 = 0)) (decide (rn.tmod 5 = 0)) j)).length = 256 := by simp
    have htk : List.take 256 ((List.range 256).map fun j => Value.bool (tb (decide (rn.tmod 2 = 0)) (decide (rn.tmod 5 = 0)) j)) = (List.range 256).map fun j => Value.bool (tb (decide (rn.tmod 2 = 0)) (decide (rn.tmod 5 = 0)) j) := List.take_of_length_le (by simp)
    (refine run_loopk (b := c5_rrrrlrbrerererererertrlrbo) rfl keep5_24 ?_; rw [ht])
    refine rS c5_rrrrlrbrerererererertrlrbol c5_rrrrlrbrerererererertrlrbor rfl ?_
    refine rS c5_rrrrlrbrerererererertrlrboll c5_rrrrlrbrerererererertrlrbolr rfl ?_
    refine run_region rfl ?_
    simp only [sX, simprocAttr, -List.reduceReplicate]
    refine rF c5_rrrrlrbrerererererertrlrbolrt c5_rrrrlrbrerererererertrlrbolre rfl rfl ?_
    refine run_exit rfl ?_
    simp only [sP, if_true, if_false, reduceCtorEq]
    refine rS c5_rrrrlrbrerererererertrrl c5_rrrrlrbrerererererertrrr rfl ?_
    refine run_region rfl ?_
    simp only [sX, simprocAttr, -List.reduceReplicate, hlen, htk]
    refine call_of (hs _ _) ?_
    rintro v H2 ⟨rfl, hh⟩
    subst hh
    unfold setV
    simp only [sX, simprocAttr, -List.reduceReplicate]
    refine run_ret rfl ?_
    (simp only [sP]; refine ⟨_, (by rw [resultsA_eq Try.results5]; simp only [sR, List.mapM_cons, List.mapM_nil, if_true, Nat.reduceAdd]; rfl), ?_⟩)
    exact hR s _ (Gr.refl _)
  | j + 1, i, t, hi, ht => by
    have hi' : i < 256 := by omega
    have e1 : decide ((i : Int) < 256) = true := by simp; omega
    have w1 : IntKind.i64.wrap ((i : Int) + 1) = ((i + 1 : Nat) : Int) := by rw [IntWalk.i64_in _ (by omega)]; omega
    have h2 : (2 : Int) ≠ 0 := by decide
    have h5 : (5 : Int) ≠ 0 := by decide
    have l2 := getO_lt g2
    have e3 : decide (0 ≤ (i : Int) ∧ (i : Int) < 256) = true := by simp; omega
    have e256 : ((256 : Nat) : Int) = 256 := rfl
    have hle : i + 1 ≤ (tbR (decide (rn.tmod 2 = 0)) (decide (rn.tmod 5 = 0)) i).length := by rw [tbR_len _ _ _ (by omega)]; omega
    have hset := tbR_set (decide (rn.tmod 2 = 0)) (decide (rn.tmod 5 = 0)) i hi'
    by_cases h97 : i = 97
    · have f1 : decide ((i : Int) = 97) = true := by simp; omega
      have hv : tb (decide (rn.tmod 2 = 0)) (decide (rn.tmod 5 = 0)) i = true := by simp [tb, h97]
      rw [hv] at hset
      (refine run_loopk (b := c5_rrrrlrbrerererererertrlrbo) rfl keep5_24 ?_; rw [ht])
      refine rS c5_rrrrlrbrerererererertrlrbol c5_rrrrlrbrerererererertrlrbor rfl ?_
      refine rS c5_rrrrlrbrerererererertrlrboll c5_rrrrlrbrerererererertrlrbolr rfl ?_
      refine run_region rfl ?_
      simp only [sX, simprocAttr, -List.reduceReplicate, e1]
      refine rT c5_rrrrlrbrerererererertrlrbolrt c5_rrrrlrbrerererererertrlrbolre rfl rfl ?_
      refine run_skip rfl ?_
      simp only [sP]
      refine rS c5_rrrrlrbrerererererertrlrborl c5_rrrrlrbrerererererertrlrborr rfl ?_
      refine run_block (b := c5_rrrrlrbrerererererertrlrborlb) rfl ?_
      refine run_regionG rfl c5_rrrrlrbrerererererertrlrborlb_gs ?_
      simp only [sX, simprocAttr, -List.reduceReplicate, e3, e256, f1, hle, hset]
      refine run_region rfl ?_
      simp only [sX, simprocAttr, -List.reduceReplicate, w1]
      exact tbl_loop lim R H rk rn sl b2 b3 d g2 hR j (i + 1) _ (by omega) (by simp only [sC, Nat.reduceBEq, Nat.reduceAdd])
    · have f1 : decide ((i : Int) = 97) = false := by simp; omega
      by_cases h98 : i = 98
      · have f2 : decide ((i : Int) = 98) = true := by simp; omega
        cases c2 : decide (rn.tmod 2 = 0) with
        | true =>
          have hv : tb true (decide (rn.tmod 5 = 0)) i = true := by simp [tb, h98]
          rw [c2] at ht hset hle
          rw [hv] at hset
          (refine run_loopk (b := c5_rrrrlrbrerererererertrlrbo) rfl keep5_24 ?_; rw [ht])
          refine rS c5_rrrrlrbrerererererertrlrbol c5_rrrrlrbrerererererertrlrbor rfl ?_
          refine rS c5_rrrrlrbrerererererertrlrboll c5_rrrrlrbrerererererertrlrbolr rfl ?_
          refine run_region rfl ?_
          simp only [sX, simprocAttr, -List.reduceReplicate, e1]
          refine rT c5_rrrrlrbrerererererertrlrbolrt c5_rrrrlrbrerererererertrlrbolre rfl rfl ?_
          refine run_skip rfl ?_
          simp only [sP]
          refine rS c5_rrrrlrbrerererererertrlrborl c5_rrrrlrbrerererererertrlrborr rfl ?_
          refine run_block (b := c5_rrrrlrbrerererererertrlrborlb) rfl ?_
          refine run_regionG rfl c5_rrrrlrbrerererererertrlrborlb_gs ?_
          simp only [sX, simprocAttr, -List.reduceReplicate, e3, e256, g2, bin_rem h2, f1, f2, c2, hle, hset]
          refine run_region rfl ?_
          simp only [sX, simprocAttr, -List.reduceReplicate, w1]
          exact tbl_loop lim R H rk rn sl b2 b3 d g2 hR j (i + 1) _ (by omega) (by rw [c2]; simp only [sC, Nat.reduceBEq, Nat.reduceAdd])
        | false =>
          have hv : tb false (decide (rn.tmod 5 = 0)) i = decide (rn.tmod 5 = 0) := by simp [tb, h97]
          rw [c2] at ht hset hle
          rw [hv] at hset
          (refine run_loopk (b := c5_rrrrlrbrerererererertrlrbo) rfl keep5_24 ?_; rw [ht])
          refine rS c5_rrrrlrbrerererererertrlrbol c5_rrrrlrbrerererererertrlrbor rfl ?_
          refine rS c5_rrrrlrbrerererererertrlrboll c5_rrrrlrbrerererererertrlrbolr rfl ?_
          refine run_region rfl ?_
          simp only [sX, simprocAttr, -List.reduceReplicate, e1]
          refine rT c5_rrrrlrbrerererererertrlrbolrt c5_rrrrlrbrerererererertrlrbolre rfl rfl ?_
          refine run_skip rfl ?_
          simp only [sP]
          refine rS c5_rrrrlrbrerererererertrlrborl c5_rrrrlrbrerererererertrlrborr rfl ?_
          refine run_block (b := c5_rrrrlrbrerererererertrlrborlb) rfl ?_
          refine run_regionG rfl c5_rrrrlrbrerererererertrlrborlb_gs ?_
          simp only [sX, simprocAttr, -List.reduceReplicate, e3, e256, g2, bin_rem h2, bin_rem h5, f1, f2, c2, hle, hset]
          refine run_region rfl ?_
          simp only [sX, simprocAttr, -List.reduceReplicate, w1]
          exact tbl_loop lim R H rk rn sl b2 b3 d g2 hR j (i + 1) _ (by omega) (by rw [c2]; simp only [sC, Nat.reduceBEq, Nat.reduceAdd])
      · have f2 : decide ((i : Int) = 98) = false := by simp; omega
        have hv : tb (decide (rn.tmod 2 = 0)) (decide (rn.tmod 5 = 0)) i = decide (rn.tmod 5 = 0) := by simp [tb, h97, h98]
        rw [hv] at hset
        (refine run_loopk (b := c5_rrrrlrbrerererererertrlrbo) rfl keep5_24 ?_; rw [ht])
        refine rS c5_rrrrlrbrerererererertrlrbol c5_rrrrlrbrerererererertrlrbor rfl ?_
        refine rS c5_rrrrlrbrerererererertrlrboll c5_rrrrlrbrerererererertrlrbolr rfl ?_
        refine run_region rfl ?_
        simp only [sX, simprocAttr, -List.reduceReplicate, e1]
        refine rT c5_rrrrlrbrerererererertrlrbolrt c5_rrrrlrbrerererererertrlrbolre rfl rfl ?_
        refine run_skip rfl ?_
        simp only [sP]
        refine rS c5_rrrrlrbrerererererertrlrborl c5_rrrrlrbrerererererertrlrborr rfl ?_
        refine run_block (b := c5_rrrrlrbrerererererertrlrborlb) rfl ?_
        refine run_regionG rfl c5_rrrrlrbrerererererertrlrborlb_gs ?_
        simp only [sX, simprocAttr, -List.reduceReplicate, e3, e256, g2, bin_rem h5, f1, f2, hle, hset]
        refine run_region rfl ?_
        simp only [sX, simprocAttr, -List.reduceReplicate, w1]
        exact tbl_loop lim R H rk rn sl b2 b3 d g2 hR j (i + 1) _ (by omega) (by simp only [sC, Nat.reduceBEq, Nat.reduceAdd])

end Go.Proofs.Ytmgofjgfmcmceaa
end
