/- Atoms: brackets, a dot, the text's ends. Sets of bytes: words' bits. Sets of bytes: one byte more; is one in? The reader of what stands between brackets. Between brackets: one byte, or all bytes. What stands between brackets. Brackets' texts. What is printed of a tree is read as that tree. Trees that are right: plain part. -/
import Derived.Test.YtmgofjgfmcmceaaF6
section
namespace Go.Proofs.Ytmgofjgfmcmceaa
open Go.RowKit
set_option maxRecDepth 4000
set_option maxHeartbeats 1000000

theorem got_pre {H H2 : Hp} {rb : Nat} {s : ByteArray} {a2 : Nat} {op : Int} {T : Tr} {v : Value} {x : Option AObj} (h : Got (H.set rb x) rb s a2 op T v H2) : Got H rb s a2 op T v H2 := by
  obtain ⟨h1, h2, h3, h4⟩ := h
  rw [List.length_set] at h1 h2 h4
  exact ⟨h1, fun b hb hn => by rw [h2 b hb hn, getO_set_ne hn], h3, h4⟩
theorem got_set {H H2 : Hp} {rb : Nat} {s : ByteArray} {a2 a3 : Nat} {op op' : Int} {T : Tr} {v : Value} (hrb : rb < H.length) (h : Got H rb s a2 op' T v H2) : Got H rb s a3 op T v (H2.set rb (some ⟨true, 0, rdC s a3 op 0 0⟩)) := by
  obtain ⟨h1, h2, h3, p, n, h4, h5⟩ := h
  refine ⟨by rw [List.length_set]; exact h1, fun b hb hn => by rw [getO_set_ne hn, h2 b hb hn], isRd.set (by omega), p, n, h4, ?_⟩
  exact h5.mono2 (fun _ h => h) fun b hb _ => by rw [getO_set_ne (by omega)]
theorem got_nil {H : Hp} {rb : Nat} {s : ByteArray} {a : Nat} {op : Int} {kd : Int} {t : S4} (hrb : rb < H.length) : Got H rb s a op (.node kd t []) (pcC kd t.a.toNat t.b.toNat t.c.toNat t.d.toNat none 0 1 1) (H.set rb (some ⟨true, 0, rdC s a op 0 0⟩)) := by
  refine ⟨by rw [List.length_set]; omega, fun b hb hn => by rw [getO_set_ne hn], isRd.set hrb, none, 0, rfl, IsRe.nil kd t⟩

theorem piece_t (lim : Nat) (H : Hp) (rb : Nat) (s : ByteArray) (a0 a1 : Nat) (op : Int) (T : Tr) (w : List UInt8) (hlim : lim ≤ rb) (hr0 : isRd H rb s a0 op)
    (h1 : CallEx X lim 42 [.pointer (some ⟨rb, 0, none⟩)] H (Got H rb s a1 op T)) (hw : tl s a1 = 123 :: 48 :: 125 :: w) (hq : quiet w) (hsz : a1 + 3 < 9223372036854775808) :
    CallEx X lim 39 [.pointer (some ⟨rb, 0, none⟩)] H (Got H rb s (a1 + 3) op (.node 0 S4.z [])) := by
  have hrb : rb < H.length := getO_lt hr0
  have hw' : tl s (a1 + 3) = w := (tl_cons (tl_cons (tl_cons hw).2.2).2.2).2.2
  have f1 : decide (((123 : UInt8).toNat : Int) = 42) = false := by decide
  have f2 : decide (((123 : UInt8).toNat : Int) = 43) = false := by decide
  have f3 : decide (((123 : UInt8).toNat : Int) = 63) = false := by decide
  rcases hq with rfl | ⟨c, r, rfl, e1, e2, e3, e4⟩
  · (refine call_intro fun39 name39 body39 ?_; simp only [Try.ntmps39, List.map_cons, List.map_nil, List.length_cons, List.length_nil, Nat.zero_add, Nat.reduceSub, List.replicate_succ, List.replicate_zero, List.cons_append, List.nil_append])
    refine rS c39_l c39_r rfl ?_
    refine run_region rfl ?_
    simp only [sX, simprocAttr, -List.reduceReplicate]
    refine rS c39_rl c39_rr rfl ?_
    refine run_region rfl ?_
    simp only [sX, simprocAttr, -List.reduceReplicate]
    refine call_of h1 ?_
    rintro v H1 ⟨hl1, hk1, hr1, p1, n1, rfl, ht1⟩
    have hr1' := hr1
    unfold isRd rdC at hr1'
    have hlt1 := getO_lt hr1
    unfold pcC
    simp only [sX, simprocAttr, -List.reduceReplicate, pur39]
    refine rS c39_rrl c39_rrr rfl ?_
    refine run_block (b := c39_rrlb) rfl ?_
    (refine run_loopk (b := c39_rrlbo) rfl keep39_2 ?_; simp only [sC, Nat.reduceBEq, Nat.reduceAdd])
    refine rS c39_rrlbol c39_rrlbor rfl ?_
    refine rS c39_rrlboll c39_rrlbolr rfl ?_
    refine run_regionG rfl c39_rrlboll_gs ?_
    simp only [sX, simprocAttr, -List.reduceReplicate, hr1']
    refine call_of (more_tl _ hr1 hw) ?_
    rintro v H1 ⟨rfl, rfl⟩
    simp only [List.isEmpty_cons]
    simp only [sX, simprocAttr, -List.reduceReplicate]
    refine rT c39_rrlbolrt c39_rrlbolre rfl rfl ?_
    refine run_skip rfl ?_
    simp only [sP]
    refine run_block (b := c39_rrlborb) rfl ?_
    refine rS c39_rrlborbl c39_rrlborbr rfl ?_
    refine run_draw rfl c39_rrlborbl_ok c39_rrlborbl_dr ?_
    simp only [sX, simprocAttr, -List.reduceReplicate, hr1', hlt1, strIx_cons hw]
    refine run_block (b := c39_rrlborbrb) rfl ?_
    refine rS c39_rrlborbrbl c39_rrlborbrbr rfl ?_
    refine run_region rfl ?_
    simp only [sX, simprocAttr, -List.reduceReplicate]
    refine rF c39_rrlborbrbrt c39_rrlborbrbre rfl rfl ?_
    refine rS c39_rrlborbrbrel c39_rrlborbrbrer rfl ?_
    refine run_region rfl ?_
    simp only [sX, simprocAttr, -List.reduceReplicate]
    refine rF c39_rrlborbrbrert c39_rrlborbrbrere rfl rfl ?_
    refine rS c39_rrlborbrbrerel c39_rrlborbrbrerer rfl ?_
    refine run_region rfl ?_
    simp only [sX, simprocAttr, -List.reduceReplicate]
    refine rF c39_rrlborbrbrerert c39_rrlborbrbrerere rfl rfl ?_
    refine rS c39_rrlborbrbrererel c39_rrlborbrbrererer rfl ?_
    refine run_region rfl ?_
    simp only [sX, simprocAttr, -List.reduceReplicate]
    refine rT c39_rrlborbrbrererert c39_rrlborbrbrererere rfl rfl ?_
    refine run_region rfl ?_
    simp only [sX, simprocAttr, -List.reduceReplicate]
    have hr2 : isRd (H1.set rb (some ⟨true, 0, rdC s (a1 + 3 : Nat) op 0 0⟩)) rb s (a1 + 3) op := isRd.set hlt1
    refine call_of (times_0 _ _ rb s a1 op [] _ _ _ _ _ _ _ _ _ hlim hr1 hw hsz) ?_
    rintro v H2 ⟨rfl, rfl⟩
    unfold pcC rdC
    simp only [sX, simprocAttr, -List.reduceReplicate]
    (refine run_loopk (b := c39_rrlbo) rfl keep39_2 ?_; simp only [sC, Nat.reduceBEq, Nat.reduceAdd])
    refine rS c39_rrlbol c39_rrlbor rfl ?_
    refine rS c39_rrlboll c39_rrlbolr rfl ?_
    refine run_regionG rfl c39_rrlboll_gs ?_
    simp only [sX, simprocAttr, -List.reduceReplicate, hlt1]
    refine call_of (more_tl _ hr2 hw') ?_
    rintro v H3 ⟨rfl, h3⟩
    subst h3
    simp only [List.isEmpty_nil]
    simp only [sX, simprocAttr, -List.reduceReplicate]
    refine rF c39_rrlbolrt c39_rrlbolre rfl rfl ?_
    refine run_exit rfl ?_
    simp only [sP, if_true]
    refine rS c39_rrrl c39_rrrr rfl ?_
    refine run_region rfl ?_
    simp only [sX, simprocAttr, -List.reduceReplicate]
    refine run_ret rfl ?_
    (simp only [sP]; refine ⟨_, (by rw [resultsA_eq Try.results39]; simp only [sR, List.mapM_cons, List.mapM_nil, if_true, Nat.reduceAdd]; rfl), ?_⟩)
    exact got_set (op' := op) hrb ⟨hl1, hk1, hr1, none, 0, rfl, IsRe.nil 0 S4.z⟩
  · (refine call_intro fun39 name39 body39 ?_; simp only [Try.ntmps39, List.map_cons, List.map_nil, List.length_cons, List.length_nil, Nat.zero_add, Nat.reduceSub, List.replicate_succ, List.replicate_zero, List.cons_append, List.nil_append])
    refine rS c39_l c39_r rfl ?_
    refine run_region rfl ?_
    simp only [sX, simprocAttr, -List.reduceReplicate]
    refine rS c39_rl c39_rr rfl ?_
    refine run_region rfl ?_
    simp only [sX, simprocAttr, -List.reduceReplicate]
    refine call_of h1 ?_
    rintro v H1 ⟨hl1, hk1, hr1, p1, n1, rfl, ht1⟩
    have hr1' := hr1
    unfold isRd rdC at hr1'
    have hlt1 := getO_lt hr1
    unfold pcC
    simp only [sX, simprocAttr, -List.reduceReplicate, pur39]
    refine rS c39_rrl c39_rrr rfl ?_
    refine run_block (b := c39_rrlb) rfl ?_
    (refine run_loopk (b := c39_rrlbo) rfl keep39_2 ?_; simp only [sC, Nat.reduceBEq, Nat.reduceAdd])
    refine rS c39_rrlbol c39_rrlbor rfl ?_
    refine rS c39_rrlboll c39_rrlbolr rfl ?_
    refine run_regionG rfl c39_rrlboll_gs ?_
    simp only [sX, simprocAttr, -List.reduceReplicate, hr1']
    refine call_of (more_tl _ hr1 hw) ?_
    rintro v H1 ⟨rfl, rfl⟩
    simp only [List.isEmpty_cons]
    simp only [sX, simprocAttr, -List.reduceReplicate]
    refine rT c39_rrlbolrt c39_rrlbolre rfl rfl ?_
    refine run_skip rfl ?_
    simp only [sP]
    refine run_block (b := c39_rrlborb) rfl ?_
    refine rS c39_rrlborbl c39_rrlborbr rfl ?_
    refine run_draw rfl c39_rrlborbl_ok c39_rrlborbl_dr ?_
    simp only [sX, simprocAttr, -List.reduceReplicate, hr1', hlt1, strIx_cons hw]
    refine run_block (b := c39_rrlborbrb) rfl ?_
    refine rS c39_rrlborbrbl c39_rrlborbrbr rfl ?_
    refine run_region rfl ?_
    simp only [sX, simprocAttr, -List.reduceReplicate]
    refine rF c39_rrlborbrbrt c39_rrlborbrbre rfl rfl ?_
    refine rS c39_rrlborbrbrel c39_rrlborbrbrer rfl ?_
    refine run_region rfl ?_
    simp only [sX, simprocAttr, -List.reduceReplicate]
    refine rF c39_rrlborbrbrert c39_rrlborbrbrere rfl rfl ?_
    refine rS c39_rrlborbrbrerel c39_rrlborbrbrerer rfl ?_
    refine run_region rfl ?_
    simp only [sX, simprocAttr, -List.reduceReplicate]
    refine rF c39_rrlborbrbrerert c39_rrlborbrbrerere rfl rfl ?_
    refine rS c39_rrlborbrbrererel c39_rrlborbrbrererer rfl ?_
    refine run_region rfl ?_
    simp only [sX, simprocAttr, -List.reduceReplicate]
    refine rT c39_rrlborbrbrererert c39_rrlborbrbrererere rfl rfl ?_
    refine run_region rfl ?_
    simp only [sX, simprocAttr, -List.reduceReplicate]
    have hr2 : isRd (H1.set rb (some ⟨true, 0, rdC s (a1 + 3 : Nat) op 0 0⟩)) rb s (a1 + 3) op := isRd.set hlt1
    refine call_of (times_0 _ _ rb s a1 op _ _ _ _ _ _ _ _ _ _ hlim hr1 hw hsz) ?_
    rintro v H2 ⟨rfl, rfl⟩
    unfold pcC rdC
    simp only [sX, simprocAttr, -List.reduceReplicate]
    (refine run_loopk (b := c39_rrlbo) rfl keep39_2 ?_; simp only [sC, Nat.reduceBEq, Nat.reduceAdd])
    refine rS c39_rrlbol c39_rrlbor rfl ?_
    refine rS c39_rrlboll c39_rrlbolr rfl ?_
    refine run_regionG rfl c39_rrlboll_gs ?_
    simp only [sX, simprocAttr, -List.reduceReplicate, hlt1]
    refine call_of (more_tl _ hr2 hw') ?_
    rintro v H3 ⟨rfl, h3⟩
    subst h3
    simp only [List.isEmpty_cons]
    simp only [sX, simprocAttr, -List.reduceReplicate]
    refine rT c39_rrlbolrt c39_rrlbolre rfl rfl ?_
    refine run_skip rfl ?_
    simp only [sP]
    refine run_block (b := c39_rrlborb) rfl ?_
    refine rS c39_rrlborbl c39_rrlborbr rfl ?_
    refine run_draw rfl c39_rrlborbl_ok c39_rrlborbl_dr ?_
    simp only [sX, simprocAttr, -List.reduceReplicate, hlt1, strIx_cons hw']
    refine run_block (b := c39_rrlborbrb) rfl ?_
    refine rS c39_rrlborbrbl c39_rrlborbrbr rfl ?_
    refine run_region rfl ?_
    simp only [sX, simprocAttr, -List.reduceReplicate, e1]
    refine rF c39_rrlborbrbrt c39_rrlborbrbre rfl rfl ?_
    refine rS c39_rrlborbrbrel c39_rrlborbrbrer rfl ?_
    refine run_region rfl ?_
    simp only [sX, simprocAttr, -List.reduceReplicate, e2]
    refine rF c39_rrlborbrbrert c39_rrlborbrbrere rfl rfl ?_
    refine rS c39_rrlborbrbrerel c39_rrlborbrbrerer rfl ?_
    refine run_region rfl ?_
    simp only [sX, simprocAttr, -List.reduceReplicate, e3]
    refine rF c39_rrlborbrbrerert c39_rrlborbrbrerere rfl rfl ?_
    refine rS c39_rrlborbrbrererel c39_rrlborbrbrererer rfl ?_
    refine run_region rfl ?_
    simp only [sX, simprocAttr, -List.reduceReplicate, e4]
    refine rF c39_rrlborbrbrererert c39_rrlborbrbrererere rfl rfl ?_
    refine rS c39_rrlborbrbrerererel c39_rrlborbrbrerererer rfl ?_
    refine run_region rfl ?_
    simp only [sX, simprocAttr, -List.reduceReplicate]
    refine run_ret rfl ?_
    (simp only [sP]; refine ⟨_, (by rw [resultsA_eq Try.results39]; simp only [sR, List.mapM_cons, List.mapM_nil, if_true, Nat.reduceAdd]; rfl), ?_⟩)
    exact got_set (op' := op) hrb ⟨hl1, hk1, hr1, none, 0, rfl, IsRe.nil 0 S4.z⟩

theorem group_ok (lim : Nat) (H : Hp) (rb : Nat) (s : ByteArray) (a a2 : Nat) (op : Int) (fr : Int) (T : Tr) (w : List UInt8) (hlim : lim ≤ rb) (hr0 : isRd H rb s a op)
    (h1 : ∀ H, isRd H rb s a (op + 1) → CallEx X lim 22 [.pointer (some ⟨rb, 0, none⟩)] H (Got H rb s a2 (op + 1) T)) (hw : tl s a2 = 41 :: w) (hsz : a2 + 1 < 9223372036854775808) (h0 : 0 ≤ op) (hop : op + 1 ≤ 10) :
    CallEx X lim 47 [.pointer (some ⟨rb, 0, none⟩), .int .i64 fr] H (Got H rb s (a2 + 1) op T) := by
  have hrb : rb < H.length := getO_lt hr0
  have hr0' := hr0
  unfold isRd rdC at hr0'
  have i1 : IntKind.i64.wrap (op + 1) = op + 1 := IntWalk.i64_in _ (by omega)
  have i2 : IntKind.i64.wrap (op + 1 - 1) = op := by rw [IntWalk.i64_in _ (by omega)]; omega
  have i3 : IntKind.i64.wrap ((a2 : Int) + 1) = ((a2 + 1 : Nat) : Int) := by rw [IntWalk.i64_in _ (by omega)]; omega
  have e1 : decide (10 < op + 1) = false := by simp; omega
  have hr1 : isRd (H.set rb (some ⟨true, 0, rdC s a (op + 1) 0 0⟩)) rb s a (op + 1) := isRd.set hrb
  (refine call_intro fun47 name47 body47 ?_; simp only [Try.ntmps47, List.map_cons, List.map_nil, List.length_cons, List.length_nil, Nat.zero_add, Nat.reduceAdd, Nat.reduceSub, List.replicate_succ, List.replicate_zero, List.cons_append, List.nil_append])
  refine rS c47_l c47_r rfl ?_
  refine run_region rfl ?_
  simp only [sX, simprocAttr, -List.reduceReplicate, pur47]
  refine rS c47_rl c47_rr rfl ?_
  refine run_region rfl ?_
  simp only [sX, simprocAttr, -List.reduceReplicate, hr0', hlim, i1]
  refine rS c47_rrl c47_rrr rfl ?_
  refine rS c47_rrll c47_rrlr rfl ?_
  refine run_region rfl ?_
  simp only [sX, simprocAttr, -List.reduceReplicate, hrb, e1]
  refine rF c47_rrlrt c47_rrlre rfl rfl ?_
  refine run_skip rfl ?_
  simp only [sP]
  refine rS c47_rrrl c47_rrrr rfl ?_
  refine run_region rfl ?_
  simp only [sX, simprocAttr, -List.reduceReplicate]
  refine call_of (h1 _ hr1) ?_
  rintro v H1 hg
  have hg0 := hg
  obtain ⟨hl1, hk1, hr1, p1, n1, rfl, ht1⟩ := hg
  have hr1' := hr1
  unfold isRd rdC at hr1'
  have hlt1 := getO_lt hr1
  unfold pcC
  simp only [sX, simprocAttr, -List.reduceReplicate]
  refine rS c47_rrrrl c47_rrrrr rfl ?_
  refine run_region rfl ?_
  simp only [sX, simprocAttr, -List.reduceReplicate, hr1', hlim, i2]
  refine rS c47_rrrrrl c47_rrrrrr rfl ?_
  refine rS c47_rrrrrll c47_rrrrrlr rfl ?_
  refine run_regionG rfl c47_rrrrrll_gs ?_
  simp only [sX, simprocAttr, -List.reduceReplicate, hlt1]
  have hr2 : isRd (H1.set rb (some ⟨true, 0, rdC s a2 op 0 0⟩)) rb s a2 op := isRd.set hlt1
  refine call_of (is_tl _ hr2 hw _) ?_
  rintro v H3 ⟨rfl, h3⟩
  subst h3
  simp only [hd, UInt8.reduceToNat, Int.cast_ofNat_Int]
  simp only [sX, simprocAttr, -List.reduceReplicate, rdC]
  refine rF c47_rrrrrlrt c47_rrrrrlre rfl rfl ?_
  refine run_skip rfl ?_
  simp only [sP]
  refine rS c47_rrrrrrl c47_rrrrrrr rfl ?_
  refine run_region rfl ?_
  simp only [sX, simprocAttr, -List.reduceReplicate, hlt1, i3, hlim]
  refine rS c47_rrrrrrrl c47_rrrrrrrr rfl ?_
  refine run_region rfl ?_
  simp only [sX, simprocAttr, -List.reduceReplicate]
  refine run_ret rfl ?_
  (simp only [sP]; refine ⟨_, (by rw [resultsA_eq Try.results47]; simp only [sR, List.mapM_cons, List.mapM_nil, if_true, Nat.reduceAdd]; rfl), ?_⟩)
  exact got_set (op' := op + 1) hrb (got_pre hg0)
end Go.Proofs.Ytmgofjgfmcmceaa
end
section
namespace Go.Proofs.Ytmgofjgfmcmceaa
open Go.RowKit
set_option maxRecDepth 4000
set_option maxHeartbeats 1000000

theorem not_0 (lim : Nat) (H : Hp) : execCall X 60 lim 48 [.agg #[.int .u64 0, .int .u64 0, .int .u64 0, .int .u64 0]] H = some (.agg #[.int .u64 18446744073709551615, .int .u64 18446744073709551615, .int .u64 18446744073709551615, .int .u64 18446744073709551615], H) := by kernel_rfl
theorem not_0_ok (lim : Nat) (H : Hp) : CallEx X lim 48 [.agg #[.int .u64 0, .int .u64 0, .int .u64 0, .int .u64 0]] H fun v H1 => v = .agg #[.int .u64 18446744073709551615, .int .u64 18446744073709551615, .int .u64 18446744073709551615, .int .u64 18446744073709551615] ∧ H1 = H := call_eq (not_0 lim H) ⟨rfl, rfl⟩
def S4.full : S4 := ⟨18446744073709551615#64, 18446744073709551615#64, 18446744073709551615#64, 18446744073709551615#64⟩

theorem atom_group (lim : Nat) (H : Hp) (rb : Nat) (s : ByteArray) (a a2 : Nat) (op : Int) (T : Tr) (w w0 : List UInt8) (hlim : lim ≤ rb) (hr0 : isRd H rb s a op) (hw0 : tl s a = 40 :: w0)
    (h1 : ∀ H, isRd H rb s (a + 1) (op + 1) → CallEx X lim 22 [.pointer (some ⟨rb, 0, none⟩)] H (Got H rb s a2 (op + 1) T)) (hw : tl s a2 = 41 :: w) (hsz : a2 + 1 < 9223372036854775808) (hsz0 : a + 1 < 9223372036854775808) (h0 : 0 ≤ op) (hop : op + 1 ≤ 10) :
    CallEx X lim 42 [.pointer (some ⟨rb, 0, none⟩)] H (Got H rb s (a2 + 1) op T) := by
  have hrb : rb < H.length := getO_lt hr0
  have hr0' := hr0
  unfold isRd rdC at hr0'
  have i3 : IntKind.i64.wrap ((a : Int) + 1) = ((a + 1 : Nat) : Int) := by rw [IntWalk.i64_in _ (by omega)]; omega
  have hr1 : isRd (H.set rb (some ⟨true, 0, rdC s (a + 1 : Nat) op 0 0⟩)) rb s (a + 1) op := isRd.set hrb
  (refine call_intro fun42 name42 body42 ?_; simp only [Try.ntmps42, List.map_cons, List.map_nil, List.length_cons, List.length_nil, Nat.zero_add, Nat.reduceSub, List.replicate_succ, List.replicate_zero, List.cons_append, List.nil_append])
  refine rS c42_l c42_r rfl ?_
  refine run_region rfl ?_
  simp only [sX, simprocAttr, -List.reduceReplicate, pur42]
  refine rS c42_rl c42_rr rfl ?_
  refine rS c42_rll c42_rlr rfl ?_
  refine run_region rfl ?_
  simp only [sX, simprocAttr, -List.reduceReplicate]
  refine call_of (more_tl _ hr0 hw0) ?_
  rintro v H2 ⟨rfl, h2⟩
  subst h2
  simp only [List.isEmpty_cons]
  simp only [sX, simprocAttr, -List.reduceReplicate]
  refine rF c42_rlrt c42_rlre rfl rfl ?_
  refine run_skip rfl ?_
  simp only [sP]
  refine rS c42_rrl c42_rrr rfl ?_
  refine run_region rfl ?_
  simp only [sX, simprocAttr, -List.reduceReplicate, hr0']
  refine rS c42_rrrl c42_rrrr rfl ?_
  refine run_region rfl ?_
  simp only [sX, simprocAttr, -List.reduceReplicate, hr0', strIx_cons hw0]
  refine rS c42_rrrrl c42_rrrrr rfl ?_
  refine run_region rfl ?_
  simp only [sX, simprocAttr, -List.reduceReplicate, hr0', hlim, i3]
  refine rS c42_rrrrrl c42_rrrrrr rfl ?_
  refine rS c42_rrrrrll c42_rrrrrlr rfl ?_
  refine run_region rfl ?_
  simp only [sX, simprocAttr, -List.reduceReplicate]
  refine run_block (b := c42_rrrrrlrb) rfl ?_
  refine rS c42_rrrrrlrbl c42_rrrrrlrbr rfl ?_
  refine run_region rfl ?_
  simp only [sX, simprocAttr, -List.reduceReplicate]
  refine rT c42_rrrrrlrbrt c42_rrrrrlrbre rfl rfl ?_
  refine rS c42_rrrrrlrbrtl c42_rrrrrlrbrtr rfl ?_
  refine run_region rfl ?_
  simp only [sX, simprocAttr, -List.reduceReplicate]
  refine call_of (group_ok _ _ rb s (a + 1) a2 op _ T w hlim hr1 h1 hw hsz h0 hop) ?_
  rintro v H1 hg
  have hg0 := hg
  obtain ⟨hl1, hk1, hr1, p1, n1, rfl, ht1⟩ := hg
  unfold pcC
  simp only [sX, simprocAttr, -List.reduceReplicate]
  refine run_ret rfl ?_
  (simp only [sP]; refine ⟨_, (by rw [resultsA_eq Try.results42]; simp only [sR, List.mapM_cons, List.mapM_nil, if_true, Nat.reduceAdd]; rfl), ?_⟩)
  exact got_pre hg0

theorem atom_dot (lim : Nat) (H : Hp) (rb : Nat) (s : ByteArray) (a : Nat) (op : Int) (w0 : List UInt8) (hlim : lim ≤ rb) (hr0 : isRd H rb s a op) (hw0 : tl s a = 46 :: w0) (hsz0 : a + 1 < 9223372036854775808) :
    CallEx X lim 42 [.pointer (some ⟨rb, 0, none⟩)] H (Got H rb s (a + 1) op (.node 1 S4.full [])) := by
  have hrb : rb < H.length := getO_lt hr0
  have hr0' := hr0
  unfold isRd rdC at hr0'
  have i3 : IntKind.i64.wrap ((a : Int) + 1) = ((a + 1 : Nat) : Int) := by rw [IntWalk.i64_in _ (by omega)]; omega
  (refine call_intro fun42 name42 body42 ?_; simp only [Try.ntmps42, List.map_cons, List.map_nil, List.length_cons, List.length_nil, Nat.zero_add, Nat.reduceSub, List.replicate_succ, List.replicate_zero, List.cons_append, List.nil_append])
  refine rS c42_l c42_r rfl ?_
  refine run_region rfl ?_
  simp only [sX, simprocAttr, -List.reduceReplicate, pur42]
  refine rS c42_rl c42_rr rfl ?_
  refine rS c42_rll c42_rlr rfl ?_
  refine run_region rfl ?_
  simp only [sX, simprocAttr, -List.reduceReplicate]
  refine call_of (more_tl _ hr0 hw0) ?_
  rintro v H2 ⟨rfl, h2⟩
  subst h2
  simp only [List.isEmpty_cons]
  simp only [sX, simprocAttr, -List.reduceReplicate]
  refine rF c42_rlrt c42_rlre rfl rfl ?_
  refine run_skip rfl ?_
  simp only [sP]
  refine rS c42_rrl c42_rrr rfl ?_
  refine run_region rfl ?_
  simp only [sX, simprocAttr, -List.reduceReplicate, hr0']
  refine rS c42_rrrl c42_rrrr rfl ?_
  refine run_region rfl ?_
  simp only [sX, simprocAttr, -List.reduceReplicate, hr0', strIx_cons hw0]
  refine rS c42_rrrrl c42_rrrrr rfl ?_
  refine run_region rfl ?_
  simp only [sX, simprocAttr, -List.reduceReplicate, hr0', hlim, i3]
  refine rS c42_rrrrrl c42_rrrrrr rfl ?_
  refine rS c42_rrrrrll c42_rrrrrlr rfl ?_
  refine run_region rfl ?_
  simp only [sX, simprocAttr, -List.reduceReplicate]
  refine run_block (b := c42_rrrrrlrb) rfl ?_
  refine rS c42_rrrrrlrbl c42_rrrrrlrbr rfl ?_
  refine run_region rfl ?_
  simp only [sX, simprocAttr, -List.reduceReplicate]
  refine rF c42_rrrrrlrbrt c42_rrrrrlrbre rfl rfl ?_
  refine rS c42_rrrrrlrbrel c42_rrrrrlrbrer rfl ?_
  refine run_region rfl ?_
  simp only [sX, simprocAttr, -List.reduceReplicate]
  refine rT c42_rrrrrlrbrert c42_rrrrrlrbrere rfl rfl ?_
  refine rS c42_rrrrrlrbrertl c42_rrrrrlrbrertr rfl ?_
  refine run_region rfl ?_
  simp only [sX, simprocAttr, -List.reduceReplicate]
  refine call_of (not_0_ok _ _) ?_
  rintro v H1 ⟨rfl, rfl⟩
  simp only [sX, simprocAttr, -List.reduceReplicate]
  refine call_of (leaf_ok _ _ _ _ _ _ _) ?_
  rintro v H1 ⟨rfl, rfl⟩
  unfold pcC
  simp only [sX, simprocAttr, -List.reduceReplicate]
  refine run_ret rfl ?_
  (simp only [sP]; refine ⟨_, (by rw [resultsA_eq Try.results42]; simp only [sR, List.mapM_cons, List.mapM_nil, if_true, Nat.reduceAdd]; rfl), ?_⟩)
  exact got_nil hrb

theorem atom_first (lim : Nat) (H : Hp) (rb : Nat) (s : ByteArray) (a : Nat) (op : Int) (w0 : List UInt8) (hlim : lim ≤ rb) (hr0 : isRd H rb s a op) (hw0 : tl s a = 94 :: w0) (hsz0 : a + 1 < 9223372036854775808) :
    CallEx X lim 42 [.pointer (some ⟨rb, 0, none⟩)] H (Got H rb s (a + 1) op (.node 7 S4.z [])) := by
  have hrb : rb < H.length := getO_lt hr0
  have hr0' := hr0
  unfold isRd rdC at hr0'
  have i3 : IntKind.i64.wrap ((a : Int) + 1) = ((a + 1 : Nat) : Int) := by rw [IntWalk.i64_in _ (by omega)]; omega
  (refine call_intro fun42 name42 body42 ?_; simp only [Try.ntmps42, List.map_cons, List.map_nil, List.length_cons, List.length_nil, Nat.zero_add, Nat.reduceSub, List.replicate_succ, List.replicate_zero, List.cons_append, List.nil_append])
  refine rS c42_l c42_r rfl ?_
  refine run_region rfl ?_
  simp only [sX, simprocAttr, -List.reduceReplicate, pur42]
  refine rS c42_rl c42_rr rfl ?_
  refine rS c42_rll c42_rlr rfl ?_
  refine run_region rfl ?_
  simp only [sX, simprocAttr, -List.reduceReplicate]
  refine call_of (more_tl _ hr0 hw0) ?_
  rintro v H2 ⟨rfl, h2⟩
  subst h2
  simp only [List.isEmpty_cons]
  simp only [sX, simprocAttr, -List.reduceReplicate]
  refine rF c42_rlrt c42_rlre rfl rfl ?_
  refine run_skip rfl ?_
  simp only [sP]
  refine rS c42_rrl c42_rrr rfl ?_
  refine run_region rfl ?_
  simp only [sX, simprocAttr, -List.reduceReplicate, hr0']
  refine rS c42_rrrl c42_rrrr rfl ?_
  refine run_region rfl ?_
  simp only [sX, simprocAttr, -List.reduceReplicate, hr0', strIx_cons hw0]
  refine rS c42_rrrrl c42_rrrrr rfl ?_
  refine run_region rfl ?_
  simp only [sX, simprocAttr, -List.reduceReplicate, hr0', hlim, i3]
  refine rS c42_rrrrrl c42_rrrrrr rfl ?_
  refine rS c42_rrrrrll c42_rrrrrlr rfl ?_
  refine run_region rfl ?_
  simp only [sX, simprocAttr, -List.reduceReplicate]
  refine run_block (b := c42_rrrrrlrb) rfl ?_
  refine rS c42_rrrrrlrbl c42_rrrrrlrbr rfl ?_
  refine run_region rfl ?_
  simp only [sX, simprocAttr, -List.reduceReplicate]
  refine rF c42_rrrrrlrbrt c42_rrrrrlrbre rfl rfl ?_
  refine rS c42_rrrrrlrbrel c42_rrrrrlrbrer rfl ?_
  refine run_region rfl ?_
  simp only [sX, simprocAttr, -List.reduceReplicate]
  refine rF c42_rrrrrlrbrert c42_rrrrrlrbrere rfl rfl ?_
  refine rS c42_rrrrrlrbrerel c42_rrrrrlrbrerer rfl ?_
  refine run_region rfl ?_
  simp only [sX, simprocAttr, -List.reduceReplicate]
  refine rF c42_rrrrrlrbrerert c42_rrrrrlrbrerere rfl rfl ?_
  refine rS c42_rrrrrlrbrererel c42_rrrrrlrbrererer rfl ?_
  refine run_region rfl ?_
  simp only [sX, simprocAttr, -List.reduceReplicate]
  refine rT c42_rrrrrlrbrererert c42_rrrrrlrbrererere rfl rfl ?_
  refine rS c42_rrrrrlrbrererertl c42_rrrrrlrbrererertr rfl ?_
  refine run_region rfl ?_
  simp only [sX, simprocAttr, -List.reduceReplicate]
  refine call_of (leaf_ok _ _ _ _ _ _ _) ?_
  rintro v H1 ⟨rfl, rfl⟩
  unfold pcC
  simp only [sX, simprocAttr, -List.reduceReplicate]
  refine run_ret rfl ?_
  (simp only [sP]; refine ⟨_, (by rw [resultsA_eq Try.results42]; simp only [sR, List.mapM_cons, List.mapM_nil, if_true, Nat.reduceAdd]; rfl), ?_⟩)
  exact got_nil hrb

theorem atom_last (lim : Nat) (H : Hp) (rb : Nat) (s : ByteArray) (a : Nat) (op : Int) (w0 : List UInt8) (hlim : lim ≤ rb) (hr0 : isRd H rb s a op) (hw0 : tl s a = 36 :: w0) (hsz0 : a + 1 < 9223372036854775808) :
    CallEx X lim 42 [.pointer (some ⟨rb, 0, none⟩)] H (Got H rb s (a + 1) op (.node 8 S4.z [])) := by
  have hrb : rb < H.length := getO_lt hr0
  have hr0' := hr0
  unfold isRd rdC at hr0'
  have i3 : IntKind.i64.wrap ((a : Int) + 1) = ((a + 1 : Nat) : Int) := by rw [IntWalk.i64_in _ (by omega)]; omega
  (refine call_intro fun42 name42 body42 ?_; simp only [Try.ntmps42, List.map_cons, List.map_nil, List.length_cons, List.length_nil, Nat.zero_add, Nat.reduceSub, List.replicate_succ, List.replicate_zero, List.cons_append, List.nil_append])
  refine rS c42_l c42_r rfl ?_
  refine run_region rfl ?_
  simp only [sX, simprocAttr, -List.reduceReplicate, pur42]
  refine rS c42_rl c42_rr rfl ?_
  refine rS c42_rll c42_rlr rfl ?_
  refine run_region rfl ?_
  simp only [sX, simprocAttr, -List.reduceReplicate]
  refine call_of (more_tl _ hr0 hw0) ?_
  rintro v H2 ⟨rfl, h2⟩
  subst h2
  simp only [List.isEmpty_cons]
  simp only [sX, simprocAttr, -List.reduceReplicate]
  refine rF c42_rlrt c42_rlre rfl rfl ?_
  refine run_skip rfl ?_
  simp only [sP]
  refine rS c42_rrl c42_rrr rfl ?_
  refine run_region rfl ?_
  simp only [sX, simprocAttr, -List.reduceReplicate, hr0']
  refine rS c42_rrrl c42_rrrr rfl ?_
  refine run_region rfl ?_
  simp only [sX, simprocAttr, -List.reduceReplicate, hr0', strIx_cons hw0]
  refine rS c42_rrrrl c42_rrrrr rfl ?_
  refine run_region rfl ?_
  simp only [sX, simprocAttr, -List.reduceReplicate, hr0', hlim, i3]
  refine rS c42_rrrrrl c42_rrrrrr rfl ?_
  refine rS c42_rrrrrll c42_rrrrrlr rfl ?_
  refine run_region rfl ?_
  simp only [sX, simprocAttr, -List.reduceReplicate]
  refine run_block (b := c42_rrrrrlrb) rfl ?_
  refine rS c42_rrrrrlrbl c42_rrrrrlrbr rfl ?_
  refine run_region rfl ?_
  simp only [sX, simprocAttr, -List.reduceReplicate]
  refine rF c42_rrrrrlrbrt c42_rrrrrlrbre rfl rfl ?_
  refine rS c42_rrrrrlrbrel c42_rrrrrlrbrer rfl ?_
  refine run_region rfl ?_
  simp only [sX, simprocAttr, -List.reduceReplicate]
  refine rF c42_rrrrrlrbrert c42_rrrrrlrbrere rfl rfl ?_
  refine rS c42_rrrrrlrbrerel c42_rrrrrlrbrerer rfl ?_
  refine run_region rfl ?_
  simp only [sX, simprocAttr, -List.reduceReplicate]
  refine rF c42_rrrrrlrbrerert c42_rrrrrlrbrerere rfl rfl ?_
  refine rS c42_rrrrrlrbrererel c42_rrrrrlrbrererer rfl ?_
  refine run_region rfl ?_
  simp only [sX, simprocAttr, -List.reduceReplicate]
  refine rF c42_rrrrrlrbrererert c42_rrrrrlrbrererere rfl rfl ?_
  refine rS c42_rrrrrlrbrerererel c42_rrrrrlrbrerererer rfl ?_
  refine run_region rfl ?_
  simp only [sX, simprocAttr, -List.reduceReplicate]
  refine rT c42_rrrrrlrbrerererert c42_rrrrrlrbrerererere rfl rfl ?_
  refine rS c42_rrrrrlrbrerererertl c42_rrrrrlrbrerererertr rfl ?_
  refine run_region rfl ?_
  simp only [sX, simprocAttr, -List.reduceReplicate]
  refine call_of (leaf_ok _ _ _ _ _ _ _) ?_
  rintro v H1 ⟨rfl, rfl⟩
  unfold pcC
  simp only [sX, simprocAttr, -List.reduceReplicate]
  refine run_ret rfl ?_
  (simp only [sP]; refine ⟨_, (by rw [resultsA_eq Try.results42]; simp only [sR, List.mapM_cons, List.mapM_nil, if_true, Nat.reduceAdd]; rfl), ?_⟩)
  exact got_nil hrb
end Go.Proofs.Ytmgofjgfmcmceaa
end
section
namespace Go.Proofs.Ytmgofjgfmcmceaa
open Go.RowKit

theorem u64_toNat (x : BitVec 64) : IntKind.u64.wrap (x.toNat : Int) = x.toNat := by
  have := x.isLt
  exact IntWalk.u64_in _ (by omega)
theorem ofInt_toNat (x : BitVec 64) : BitVec.ofInt IntKind.u64.bits (x.toNat : Int) = x := by
  show BitVec.ofInt 64 (x.toNat : Int) = x
  simp
theorem ibit_or (x y : BitVec 64) : ibit .or .u64 (x.toNat : Int) (y.toNat : Int) = ((x ||| y).toNat : Int) := by
  unfold ibit
  simp only [ofInt_toNat]
  exact u64_toNat (x ||| y)
theorem ibit_and (x y : BitVec 64) : ibit .and .u64 (x.toNat : Int) (y.toNat : Int) = ((x &&& y).toNat : Int) := by
  unfold ibit
  simp only [ofInt_toNat]
  exact u64_toNat (x &&& y)
theorem shl_one (m : Nat) (hm : m < 64) : IntKind.u64.wrap (1 * 2 ^ (min m IntKind.u64.bits)) = ((BitVec.twoPow 64 m).toNat : Int) := by
  have h1 : min m IntKind.u64.bits = m := by
    have : IntKind.u64.bits = 64 := rfl
    rw [this]; omega
  rw [h1, Int.one_mul]
  have h2 : ((BitVec.twoPow 64 m).toNat : Int) = 2 ^ m := by
    rw [BitVec.toNat_twoPow_of_lt hm]; norm_cast
  rw [← h2]
  exact u64_toNat _
theorem has_bit (w : BitVec 64) (m : Nat) (hm : m < 64) : decide (ibit .and .u64 ((w.toNat : Int).fdiv (2 ^ (min m IntKind.u64.bits))) 1 = 1) = w.getLsbD m := by
  have h1 : min m IntKind.u64.bits = m := by
    have : IntKind.u64.bits = 64 := rfl
    rw [this]; omega
  rw [h1]
  have h2 : (w.toNat : Int).fdiv (2 ^ m) = ((w >>> m).toNat : Int) := by
    rw [Int.fdiv_eq_ediv_of_nonneg _ (Int.le_of_lt (Int.pow_pos (by decide)))]
    rw [BitVec.toNat_ushiftRight, Nat.shiftRight_eq_div_pow]
    norm_cast
  have h3 : (1 : Int) = ((1#64).toNat : Int) := by decide
  rw [h2]
  conv => lhs; rw [h3]
  rw [ibit_and]
  have h4 : ((w >>> m &&& 1#64).toNat : Int) = ((1#64).toNat : Int) ↔ w.getLsbD m = true := by
    constructor
    · intro h
      have h5 : w >>> m &&& 1#64 = 1#64 := BitVec.eq_of_toNat_eq (by exact_mod_cast h)
      have h6 := congrArg (fun z => z.getLsbD 0) h5
      simpa using h6
    · intro h
      have h5 : w >>> m &&& 1#64 = 1#64 := by
        apply BitVec.eq_of_getLsbD_eq
        intro i hi
        by_cases h0 : i = 0
        · subst h0; simpa using h
        · simp [h0]
      rw [h5]
  by_cases hb : w.getLsbD m = true
  · rw [hb]; simpa using h4.mpr hb
  · simp only [Bool.not_eq_true] at hb
    rw [hb]
    simp only [decide_eq_false_iff_not]
    intro h
    have := h4.mp h
    rw [hb] at this; cases this
end Go.Proofs.Ytmgofjgfmcmceaa
end
section
namespace Go.Proofs.Ytmgofjgfmcmceaa
open Go.RowKit
set_option maxRecDepth 4000
set_option maxHeartbeats 1000000

/-- A set as a value. -/
def setV (s : S4) : Value := .agg #[.int .u64 s.a.toNat, .int .u64 s.b.toNat, .int .u64 s.c.toNat, .int .u64 s.d.toNat]
/-- Is a byte in it? -/
def S4.has (s : S4) (x : Nat) : Bool := if x / 64 = 0 then s.a.getLsbD (x % 64) else if x / 64 = 1 then s.b.getLsbD (x % 64) else if x / 64 = 2 then s.c.getLsbD (x % 64) else s.d.getLsbD (x % 64)
/-- A byte more. -/
def S4.put (s : S4) (x : Nat) : S4 := if x / 64 = 0 then { s with a := s.a ||| BitVec.twoPow 64 (x % 64) } else if x / 64 = 1 then { s with b := s.b ||| BitVec.twoPow 64 (x % 64) } else if x / 64 = 2 then { s with c := s.c ||| BitVec.twoPow 64 (x % 64) } else { s with d := s.d ||| BitVec.twoPow 64 (x % 64) }

theorem with_ok (lim : Nat) (H : Hp) (s : S4) (x : Nat) (hx : x < 256) : CallEx X lim 57 [setV s, .int .u8 x] H fun v H1 => v = setV (s.put x) ∧ H1 = H := by
  have hm : ((x : Int)).tmod 64 = ((x % 64 : Nat) : Int) := by rw [Int.tmod_eq_emod_of_nonneg (by omega)]; omega
  have hm0 : (0 : Int) ≤ ((x % 64 : Nat) : Int) := by omega
  have hm1 : x % 64 < 64 := by omega
  have h64 : (64 : Int) ≠ 0 := by decide
  have hc : x / 64 = 0 ∨ x / 64 = 1 ∨ x / 64 = 2 ∨ x / 64 = 3 := by omega
  unfold setV
  rcases hc with hc | hc | hc | hc
  · have hq : IntKind.u8.wrap ((x : Int).tdiv 64) = 0 := by rw [Int.tdiv_eq_ediv_of_nonneg (by omega), IntWalk.u8_in _ (by omega)]; omega
    (refine call_intro fun57 name57 body57 ?_; simp only [Try.ntmps57, List.map_cons, List.map_nil, List.length_cons, List.length_nil, Nat.zero_add, Nat.reduceAdd, Nat.reduceSub, List.replicate_succ, List.replicate_zero, List.cons_append, List.nil_append])
    refine rS c57_l c57_r rfl ?_
    refine run_region rfl ?_
    simp only [sX, simprocAttr, -List.reduceReplicate]
    refine rS c57_rl c57_rr rfl ?_
    refine run_region rfl ?_
    simp only [sX, simprocAttr, -List.reduceReplicate, bin_quo h64, bin_rem h64, hq, hm, bin_shl hm0, shl_one _ hm1, ibit_or]
    refine rS c57_rrl c57_rrr rfl ?_
    refine run_region rfl ?_
    simp only [sX, simprocAttr, -List.reduceReplicate]
    refine run_ret rfl ?_
    (simp only [sP]; refine ⟨_, (by rw [resultsA_eq Try.results57]; simp only [sR, List.mapM_cons, List.mapM_nil, if_true, Nat.reduceAdd]; rfl), ?_⟩)
    refine ⟨?_, trivial⟩
    simp [S4.put, hc]
  · have hq : IntKind.u8.wrap ((x : Int).tdiv 64) = 1 := by rw [Int.tdiv_eq_ediv_of_nonneg (by omega), IntWalk.u8_in _ (by omega)]; omega
    (refine call_intro fun57 name57 body57 ?_; simp only [Try.ntmps57, List.map_cons, List.map_nil, List.length_cons, List.length_nil, Nat.zero_add, Nat.reduceAdd, Nat.reduceSub, List.replicate_succ, List.replicate_zero, List.cons_append, List.nil_append])
    refine rS c57_l c57_r rfl ?_
    refine run_region rfl ?_
    simp only [sX, simprocAttr, -List.reduceReplicate]
    refine rS c57_rl c57_rr rfl ?_
    refine run_region rfl ?_
    simp only [sX, simprocAttr, -List.reduceReplicate, bin_quo h64, bin_rem h64, hq, hm, bin_shl hm0, shl_one _ hm1, ibit_or]
    refine rS c57_rrl c57_rrr rfl ?_
    refine run_region rfl ?_
    simp only [sX, simprocAttr, -List.reduceReplicate]
    refine run_ret rfl ?_
    (simp only [sP]; refine ⟨_, (by rw [resultsA_eq Try.results57]; simp only [sR, List.mapM_cons, List.mapM_nil, if_true, Nat.reduceAdd]; rfl), ?_⟩)
    refine ⟨?_, trivial⟩
    simp [S4.put, hc]
  · have hq : IntKind.u8.wrap ((x : Int).tdiv 64) = 2 := by rw [Int.tdiv_eq_ediv_of_nonneg (by omega), IntWalk.u8_in _ (by omega)]; omega
    (refine call_intro fun57 name57 body57 ?_; simp only [Try.ntmps57, List.map_cons, List.map_nil, List.length_cons, List.length_nil, Nat.zero_add, Nat.reduceAdd, Nat.reduceSub, List.replicate_succ, List.replicate_zero, List.cons_append, List.nil_append])
    refine rS c57_l c57_r rfl ?_
    refine run_region rfl ?_
    simp only [sX, simprocAttr, -List.reduceReplicate]
    refine rS c57_rl c57_rr rfl ?_
    refine run_region rfl ?_
    simp only [sX, simprocAttr, -List.reduceReplicate, bin_quo h64, bin_rem h64, hq, hm, bin_shl hm0, shl_one _ hm1, ibit_or]
    refine rS c57_rrl c57_rrr rfl ?_
    refine run_region rfl ?_
    simp only [sX, simprocAttr, -List.reduceReplicate]
    refine run_ret rfl ?_
    (simp only [sP]; refine ⟨_, (by rw [resultsA_eq Try.results57]; simp only [sR, List.mapM_cons, List.mapM_nil, if_true, Nat.reduceAdd]; rfl), ?_⟩)
    refine ⟨?_, trivial⟩
    simp [S4.put, hc]
  · have hq : IntKind.u8.wrap ((x : Int).tdiv 64) = 3 := by rw [Int.tdiv_eq_ediv_of_nonneg (by omega), IntWalk.u8_in _ (by omega)]; omega
    (refine call_intro fun57 name57 body57 ?_; simp only [Try.ntmps57, List.map_cons, List.map_nil, List.length_cons, List.length_nil, Nat.zero_add, Nat.reduceAdd, Nat.reduceSub, List.replicate_succ, List.replicate_zero, List.cons_append, List.nil_append])
    refine rS c57_l c57_r rfl ?_
    refine run_region rfl ?_
    simp only [sX, simprocAttr, -List.reduceReplicate]
    refine rS c57_rl c57_rr rfl ?_
    refine run_region rfl ?_
    simp only [sX, simprocAttr, -List.reduceReplicate, bin_quo h64, bin_rem h64, hq, hm, bin_shl hm0, shl_one _ hm1, ibit_or]
    refine rS c57_rrl c57_rrr rfl ?_
    refine run_region rfl ?_
    simp only [sX, simprocAttr, -List.reduceReplicate]
    refine run_ret rfl ?_
    (simp only [sP]; refine ⟨_, (by rw [resultsA_eq Try.results57]; simp only [sR, List.mapM_cons, List.mapM_nil, if_true, Nat.reduceAdd]; rfl), ?_⟩)
    refine ⟨?_, trivial⟩
    simp [S4.put, hc]

theorem has_ok (lim : Nat) (H : Hp) (s : S4) (x : Nat) (hx : x < 256) : CallEx X lim 37 [setV s, .int .u8 x] H fun v H1 => v = .bool (s.has x) ∧ H1 = H := by
  have hm : ((x : Int)).tmod 64 = ((x % 64 : Nat) : Int) := by rw [Int.tmod_eq_emod_of_nonneg (by omega)]; omega
  have hm0 : (0 : Int) ≤ ((x % 64 : Nat) : Int) := by omega
  have hm1 : x % 64 < 64 := by omega
  have h64 : (64 : Int) ≠ 0 := by decide
  have hc : x / 64 = 0 ∨ x / 64 = 1 ∨ x / 64 = 2 ∨ x / 64 = 3 := by omega
  unfold setV
  rcases hc with hc | hc | hc | hc
  · have hq : IntKind.u8.wrap ((x : Int).tdiv 64) = 0 := by rw [Int.tdiv_eq_ediv_of_nonneg (by omega), IntWalk.u8_in _ (by omega)]; omega
    (refine call_intro fun37 name37 body37 ?_; simp only [Try.ntmps37, List.map_cons, List.map_nil, List.length_cons, List.length_nil, Nat.zero_add, Nat.reduceAdd, Nat.reduceSub, List.replicate_succ, List.replicate_zero, List.cons_append, List.nil_append])
    refine rS c37_l c37_r rfl ?_
    refine run_region rfl ?_
    simp only [sX, simprocAttr, -List.reduceReplicate]
    refine rS c37_rl c37_rr rfl ?_
    refine run_region rfl ?_
    simp only [sX, simprocAttr, -List.reduceReplicate, bin_quo h64, bin_rem h64, hq, hm, bin_shr hm0, has_bit _ _ hm1]
    refine run_ret rfl ?_
    (simp only [sP]; refine ⟨_, (by rw [resultsA_eq Try.results37]; simp only [sR, List.mapM_cons, List.mapM_nil]; rfl), ?_⟩)
    refine ⟨?_, trivial⟩
    simp [S4.has, hc]
  · have hq : IntKind.u8.wrap ((x : Int).tdiv 64) = 1 := by rw [Int.tdiv_eq_ediv_of_nonneg (by omega), IntWalk.u8_in _ (by omega)]; omega
    (refine call_intro fun37 name37 body37 ?_; simp only [Try.ntmps37, List.map_cons, List.map_nil, List.length_cons, List.length_nil, Nat.zero_add, Nat.reduceAdd, Nat.reduceSub, List.replicate_succ, List.replicate_zero, List.cons_append, List.nil_append])
    refine rS c37_l c37_r rfl ?_
    refine run_region rfl ?_
    simp only [sX, simprocAttr, -List.reduceReplicate]
    refine rS c37_rl c37_rr rfl ?_
    refine run_region rfl ?_
    simp only [sX, simprocAttr, -List.reduceReplicate, bin_quo h64, bin_rem h64, hq, hm, bin_shr hm0, has_bit _ _ hm1]
    refine run_ret rfl ?_
    (simp only [sP]; refine ⟨_, (by rw [resultsA_eq Try.results37]; simp only [sR, List.mapM_cons, List.mapM_nil]; rfl), ?_⟩)
    refine ⟨?_, trivial⟩
    simp [S4.has, hc]
  · have hq : IntKind.u8.wrap ((x : Int).tdiv 64) = 2 := by rw [Int.tdiv_eq_ediv_of_nonneg (by omega), IntWalk.u8_in _ (by omega)]; omega
    (refine call_intro fun37 name37 body37 ?_; simp only [Try.ntmps37, List.map_cons, List.map_nil, List.length_cons, List.length_nil, Nat.zero_add, Nat.reduceAdd, Nat.reduceSub, List.replicate_succ, List.replicate_zero, List.cons_append, List.nil_append])
    refine rS c37_l c37_r rfl ?_
    refine run_region rfl ?_
    simp only [sX, simprocAttr, -List.reduceReplicate]
    refine rS c37_rl c37_rr rfl ?_
    refine run_region rfl ?_
    simp only [sX, simprocAttr, -List.reduceReplicate, bin_quo h64, bin_rem h64, hq, hm, bin_shr hm0, has_bit _ _ hm1]
    refine run_ret rfl ?_
    (simp only [sP]; refine ⟨_, (by rw [resultsA_eq Try.results37]; simp only [sR, List.mapM_cons, List.mapM_nil]; rfl), ?_⟩)
    refine ⟨?_, trivial⟩
    simp [S4.has, hc]
  · have hq : IntKind.u8.wrap ((x : Int).tdiv 64) = 3 := by rw [Int.tdiv_eq_ediv_of_nonneg (by omega), IntWalk.u8_in _ (by omega)]; omega
    (refine call_intro fun37 name37 body37 ?_; simp only [Try.ntmps37, List.map_cons, List.map_nil, List.length_cons, List.length_nil, Nat.zero_add, Nat.reduceAdd, Nat.reduceSub, List.replicate_succ, List.replicate_zero, List.cons_append, List.nil_append])
    refine rS c37_l c37_r rfl ?_
    refine run_region rfl ?_
    simp only [sX, simprocAttr, -List.reduceReplicate]
    refine rS c37_rl c37_rr rfl ?_
    refine run_region rfl ?_
    simp only [sX, simprocAttr, -List.reduceReplicate, bin_quo h64, bin_rem h64, hq, hm, bin_shr hm0, has_bit _ _ hm1]
    refine run_ret rfl ?_
    (simp only [sP]; refine ⟨_, (by rw [resultsA_eq Try.results37]; simp only [sR, List.mapM_cons, List.mapM_nil]; rfl), ?_⟩)
    refine ⟨?_, trivial⟩
    simp [S4.has, hc]
end Go.Proofs.Ytmgofjgfmcmceaa
end
section
namespace Go.Proofs.Ytmgofjgfmcmceaa
open Go.RowKit
set_option maxRecDepth 4000
set_option maxHeartbeats 2000000

theorem of_ok (lim : Nat) (H : Hp) (lb : Nat) (wr : Bool) (x : Nat) (hx : x < 256) (hl : getO H lb = some ⟨wr, 1, [.int .u8 x]⟩) :
    CallEx X lim 50 [.slice (some ⟨lb, 0, none⟩) 1 1] H fun v H1 => v = setV (S4.z.put x) ∧ H1 = H := by
  have hz : (Value.agg #[.int .u64 0, .int .u64 0, .int .u64 0, .int .u64 0]) = setV S4.z := rfl
  (refine call_intro fun50 name50 body50 ?_; simp only [Try.ntmps50, List.map_cons, List.map_nil, List.length_cons, List.length_nil, Nat.zero_add, Nat.reduceSub, List.replicate_succ, List.replicate_zero, List.cons_append, List.nil_append])
  refine rS c50_l c50_r rfl ?_
  refine run_region rfl ?_
  simp only [sX, simprocAttr, -List.reduceReplicate]
  refine rS c50_rl c50_rr rfl ?_
  refine run_region rfl ?_
  simp only [sX, simprocAttr, -List.reduceReplicate]
  refine rS c50_rrl c50_rrr rfl ?_
  refine rS c50_rrll c50_rrlr rfl ?_
  refine run_region rfl ?_
  simp only [sX, simprocAttr, -List.reduceReplicate]
  refine run_block (b := c50_rrlrb) rfl ?_
  (refine run_loopk (b := c50_rrlrbo) rfl keep50_3 ?_; simp only [sC, Nat.reduceBEq, Nat.reduceAdd])
  refine rS c50_rrlrbol c50_rrlrbor rfl ?_
  refine run_region rfl ?_
  simp only [sX, simprocAttr, -List.reduceReplicate]
  refine rS c50_rrlrborl c50_rrlrborr rfl ?_
  refine rT c50_rrlrborlt c50_rrlrborle rfl rfl ?_
  refine run_skip rfl ?_
  simp only [sP]
  refine rS c50_rrlrborrl c50_rrlrborrr rfl ?_
  refine run_block (b := c50_rrlrborrlb) rfl ?_
  refine rS c50_rrlrborrlbl c50_rrlrborrlbr rfl ?_
  refine run_region rfl ?_
  simp only [sX, simprocAttr, -List.reduceReplicate, hl]
  refine run_region rfl ?_
  simp only [sX, simprocAttr, -List.reduceReplicate]
  rw [hz]
  refine call_of (with_ok _ _ _ x hx) ?_
  rintro v H2 ⟨rfl, h2⟩
  subst h2
  unfold setV
  simp only [sX, simprocAttr, -List.reduceReplicate]
  refine run_region rfl ?_
  simp only [sX, simprocAttr, -List.reduceReplicate]
  (refine run_loopk (b := c50_rrlrbo) rfl keep50_3 ?_; simp only [sC, Nat.reduceBEq, Nat.reduceAdd])
  refine rS c50_rrlrbol c50_rrlrbor rfl ?_
  refine run_region rfl ?_
  simp only [sX, simprocAttr, -List.reduceReplicate]
  refine rS c50_rrlrborl c50_rrlrborr rfl ?_
  refine rF c50_rrlrborlt c50_rrlrborle rfl rfl ?_
  refine run_exit rfl ?_
  simp only [sP, if_true]
  refine rS c50_rrrl c50_rrrr rfl ?_
  refine run_region rfl ?_
  simp only [sX, simprocAttr, -List.reduceReplicate]
  refine run_ret rfl ?_
  (simp only [sP]; refine ⟨_, (by rw [resultsA_eq Try.results50]; simp only [sR, List.mapM_cons, List.mapM_nil, if_true, Nat.reduceAdd]; rfl), ?_⟩)
  exact ⟨rfl, trivial⟩

/-- The reader of brackets stands there. -/
def isCr (H : Hp) (cb : Nat) (s : ByteArray) (a : Nat) : Prop := getO H cb = some ⟨true, 0, [.string s, .int .i64 a]⟩
theorem isCr.set {H : Hp} {cb : Nat} {s : ByteArray} {a : Nat} (h : cb < H.length) : isCr (H.set cb (some ⟨true, 0, [.string s, .int .i64 a]⟩)) cb s a := getO_set_self h
/-- What is seen ahead. -/
def pkV : List UInt8 → Value
  | [] => .tuple #[.int .u8 0, .bool false]
  | c :: _ => .tuple #[.int .u8 c.toNat, .bool true]

theorem peek_ok (lim : Nat) (H : Hp) (cb : Nat) (s : ByteArray) (a k : Nat) (w : List UInt8) (hr : isCr H cb s a) (hw : tl s (a + k) = w) (hsz : a + k < 9223372036854775808) :
    CallEx X lim 58 [.pointer (some ⟨cb, 0, none⟩), .int .i64 k] H fun v H1 => v = pkV w ∧ H1 = H := by
  have hr' := hr
  unfold isCr at hr'
  have hlt := getO_lt hr
  have hi : IntKind.i64.wrap ((a : Int) + k) = ((a + k : Nat) : Int) := by rw [IntWalk.i64_in _ (by omega)]; omega
  cases w with
  | nil =>
    have e1 : decide ((s.size : Int) ≤ ((a + k : Nat) : Int)) = true := by have := tl_nil hw; simp; omega
    (refine call_intro fun58 name58 body58 ?_; simp only [Try.ntmps58, List.map_cons, List.map_nil, List.length_cons, List.length_nil, Nat.zero_add, Nat.reduceAdd, Nat.reduceSub, List.replicate_succ, List.replicate_zero, List.cons_append, List.nil_append])
    refine rS c58_l c58_r rfl ?_
    refine run_region rfl ?_
    simp only [sX, simprocAttr, -List.reduceReplicate]
    refine rS c58_rl c58_rr rfl ?_
    refine rS c58_rll c58_rlr rfl ?_
    refine run_draw rfl c58_rll_ok c58_rll_dr ?_
    simp only [sX, simprocAttr, -List.reduceReplicate, hr', hi, e1]
    refine rT c58_rlrt c58_rlre rfl rfl ?_
    refine rS c58_rlrtl c58_rlrtr rfl ?_
    refine run_region rfl ?_
    simp only [sX, simprocAttr, -List.reduceReplicate]
    refine run_ret rfl ?_
    (simp only [sP]; refine ⟨_, (by rw [resultsA_eq Try.results58]; simp only [sR, List.mapM_cons, List.mapM_nil]; rfl), ?_⟩)
    exact ⟨rfl, trivial⟩
  | cons c r =>
    have e1 : decide ((s.size : Int) ≤ ((a + k : Nat) : Int)) = false := by have := (tl_cons hw).1; simp; omega
    (refine call_intro fun58 name58 body58 ?_; simp only [Try.ntmps58, List.map_cons, List.map_nil, List.length_cons, List.length_nil, Nat.zero_add, Nat.reduceAdd, Nat.reduceSub, List.replicate_succ, List.replicate_zero, List.cons_append, List.nil_append])
    refine rS c58_l c58_r rfl ?_
    refine run_region rfl ?_
    simp only [sX, simprocAttr, -List.reduceReplicate]
    refine rS c58_rl c58_rr rfl ?_
    refine rS c58_rll c58_rlr rfl ?_
    refine run_draw rfl c58_rll_ok c58_rll_dr ?_
    simp only [sX, simprocAttr, -List.reduceReplicate, hr', hi, e1]
    refine rF c58_rlrt c58_rlre rfl rfl ?_
    refine run_skip rfl ?_
    simp only [sP]
    refine rS c58_rrl c58_rrr rfl ?_
    refine run_draw rfl c58_rrl_ok c58_rrl_dr ?_
    simp only [sX, simprocAttr, -List.reduceReplicate, hr', hi, strIx_cons hw]
    refine run_ret rfl ?_
    (simp only [sP]; refine ⟨_, (by rw [resultsA_eq Try.results58]; simp only [sR, List.mapM_cons, List.mapM_nil]; rfl), ?_⟩)
    exact ⟨rfl, trivial⟩

theorem cis_ok (lim : Nat) (H : Hp) (cb : Nat) (s : ByteArray) (a k : Nat) (n : Int) (w : List UInt8) (hr : isCr H cb s a) (hw : tl s (a + k) = w) (hsz : a + k < 9223372036854775808) :
    CallEx X lim 54 [.pointer (some ⟨cb, 0, none⟩), .int .i64 k, .int .u8 n] H fun v H1 => v = .bool (hd w n) ∧ H1 = H := by
  cases w with
  | nil =>
    (refine call_intro fun54 name54 body54 ?_; simp only [Try.ntmps54, List.map_cons, List.map_nil, List.length_cons, List.length_nil, Nat.zero_add, Nat.reduceAdd, Nat.reduceSub, List.replicate_succ, List.replicate_zero, List.cons_append, List.nil_append])
    refine rS c54_l c54_r rfl ?_
    refine run_region rfl ?_
    simp only [sX, simprocAttr, -List.reduceReplicate]
    refine rS c54_rl c54_rr rfl ?_
    refine run_region rfl ?_
    simp only [sX, simprocAttr, -List.reduceReplicate]
    refine call_of (peek_ok _ _ cb s a k _ hr hw hsz) ?_
    rintro v H2 ⟨rfl, h2⟩
    subst h2
    unfold pkV
    simp only [sX, simprocAttr, -List.reduceReplicate]
    refine rS c54_rrl c54_rrr rfl ?_
    refine run_regionG rfl c54_rrl_gs ?_
    simp only [sX, simprocAttr, -List.reduceReplicate]
    refine run_ret rfl ?_
    (simp only [sP]; refine ⟨_, (by rw [resultsA_eq Try.results54]; simp only [sR, List.mapM_cons, List.mapM_nil]; rfl), ?_⟩)
    exact ⟨rfl, trivial⟩
  | cons c r =>
    (refine call_intro fun54 name54 body54 ?_; simp only [Try.ntmps54, List.map_cons, List.map_nil, List.length_cons, List.length_nil, Nat.zero_add, Nat.reduceAdd, Nat.reduceSub, List.replicate_succ, List.replicate_zero, List.cons_append, List.nil_append])
    refine rS c54_l c54_r rfl ?_
    refine run_region rfl ?_
    simp only [sX, simprocAttr, -List.reduceReplicate]
    refine rS c54_rl c54_rr rfl ?_
    refine run_region rfl ?_
    simp only [sX, simprocAttr, -List.reduceReplicate]
    refine call_of (peek_ok _ _ cb s a k _ hr hw hsz) ?_
    rintro v H2 ⟨rfl, h2⟩
    subst h2
    unfold pkV
    simp only [sX, simprocAttr, -List.reduceReplicate]
    refine rS c54_rrl c54_rrr rfl ?_
    refine run_regionG rfl c54_rrl_gs ?_
    simp only [sX, simprocAttr, -List.reduceReplicate]
    refine run_ret rfl ?_
    (simp only [sP]; refine ⟨_, (by rw [resultsA_eq Try.results54]; simp only [sR, List.mapM_cons, List.mapM_nil]; rfl), ?_⟩)
    exact ⟨rfl, trivial⟩

/-- A byte as a backslash and three digits. -/
def octL (x : Nat) : List UInt8 := [92, UInt8.ofNat (48 + x / 64), UInt8.ofNat (48 + x / 8 % 8), UInt8.ofNat (48 + x % 8)]
theorem end_ok (lim : Nat) (H : Hp) (cb : Nat) (s : ByteArray) (a x : Nat) (hx : x < 256) (r : List UInt8) (hlim : lim ≤ cb) (hr : isCr H cb s a) (hw : tl s a = octL x ++ r) (hsz : a + 4 < 9223372036854775808) :
    CallEx X lim 60 [.pointer (some ⟨cb, 0, none⟩)] H fun v H1 => v = .tuple #[.int .u8 x, .bool true] ∧ H1 = H.set cb (some ⟨true, 0, [.string s, .int .i64 (a + 4 : Nat)]⟩) := by
  have hr' := hr
  unfold isCr at hr'
  have hlt := getO_lt hr
  unfold octL at hw
  generalize hd1 : UInt8.ofNat (48 + x / 64) = d1 at hw
  generalize hd2 : UInt8.ofNat (48 + x / 8 % 8) = d2 at hw
  generalize hd3 : UInt8.ofNat (48 + x % 8) = d3 at hw
  have n1 : d1.toNat = 48 + x / 64 := by subst hd1; simp; omega
  have n2 : d2.toNat = 48 + x / 8 % 8 := by subst hd2; simp; omega
  have n3 : d3.toNat = 48 + x % 8 := by subst hd3; simp; omega
  simp only [List.cons_append, List.nil_append] at hw
  have hw1 := (tl_cons hw).2.2
  have hw2 := (tl_cons hw1).2.2
  have hw3 := (tl_cons hw2).2.2
  have hr1 : ∀ k : Nat, isCr (H.set cb (some ⟨true, 0, [.string s, .int .i64 (a + k : Nat)]⟩)) cb s (a + k) := fun k => isCr.set hlt
  have i1 : IntKind.i64.wrap ((a : Int) + 1) = ((a + 1 : Nat) : Int) := by rw [IntWalk.i64_in _ (by omega)]; omega
  have i2 : IntKind.i64.wrap (((a + 1 : Nat) : Int) + 1) = ((a + 2 : Nat) : Int) := by rw [IntWalk.i64_in _ (by omega)]; omega
  have i3 : IntKind.i64.wrap (((a + 2 : Nat) : Int) + 1) = ((a + 3 : Nat) : Int) := by rw [IntWalk.i64_in _ (by omega)]; omega
  have i4 : IntKind.i64.wrap (((a + 3 : Nat) : Int) + 1) = ((a + 4 : Nat) : Int) := by rw [IntWalk.i64_in _ (by omega)]; omega
  have e1 : decide ((d1.toNat : Int) = 110) = false := by simp; omega
  have e2 : decide ((d1.toNat : Int) = 116) = false := by simp; omega
  have e3 : decide ((d1.toNat : Int) < 48) = false := by simp; omega
  have e4 : decide (55 < (d1.toNat : Int)) = false := by simp; omega
  have e5 : decide ((d2.toNat : Int) < 48) = false := by simp; omega
  have e6 : decide (55 < (d2.toNat : Int)) = false := by simp; omega
  have e7 : decide ((d3.toNat : Int) < 48) = false := by simp; omega
  have e8 : decide (55 < (d3.toNat : Int)) = false := by simp; omega
  have j1 : IntKind.u8.wrap ((d1.toNat : Int) - 48) = ((x / 64 : Nat) : Int) := by rw [IntWalk.u8_in _ (by omega)]; omega
  have j2 : IntKind.u8.wrap ((d2.toNat : Int) - 48) = ((x / 8 % 8 : Nat) : Int) := by rw [IntWalk.u8_in _ (by omega)]; omega
  have j3 : IntKind.u8.wrap ((d3.toNat : Int) - 48) = ((x % 8 : Nat) : Int) := by rw [IntWalk.u8_in _ (by omega)]; omega
  have k1 : IntKind.i64.wrap ((x / 64 : Nat) : Int) = ((x / 64 : Nat) : Int) := IntWalk.i64_in _ (by omega)
  have k2 : IntKind.i64.wrap ((x / 8 % 8 : Nat) : Int) = ((x / 8 % 8 : Nat) : Int) := IntWalk.i64_in _ (by omega)
  have k3 : IntKind.i64.wrap ((x % 8 : Nat) : Int) = ((x % 8 : Nat) : Int) := IntWalk.i64_in _ (by omega)
  have l1 : IntKind.i64.wrap (8 * ((x / 64 : Nat) : Int)) = ((8 * (x / 64) : Nat) : Int) := by rw [IntWalk.i64_in _ (by omega)]; omega
  have l2 : IntKind.i64.wrap (((8 * (x / 64) : Nat) : Int) + ((x / 8 % 8 : Nat) : Int)) = ((x / 8 : Nat) : Int) := by rw [IntWalk.i64_in _ (by omega)]; omega
  have l3 : IntKind.i64.wrap (8 * ((x / 8 : Nat) : Int)) = ((8 * (x / 8) : Nat) : Int) := by rw [IntWalk.i64_in _ (by omega)]; omega
  have l4 : IntKind.i64.wrap (((8 * (x / 8) : Nat) : Int) + ((x % 8 : Nat) : Int)) = (x : Int) := by rw [IntWalk.i64_in _ (by omega)]; omega
  have l5 : IntKind.u8.wrap (x : Int) = (x : Int) := IntWalk.u8_in _ (by omega)
  (refine call_intro fun60 name60 body60 ?_; simp only [Try.ntmps60, List.map_cons, List.map_nil, List.length_cons, List.length_nil, Nat.zero_add, Nat.reduceSub, List.replicate_succ, List.replicate_zero, List.cons_append, List.nil_append])
  refine rS c60_l c60_r rfl ?_
  refine run_region rfl ?_
  simp only [sX, simprocAttr, -List.reduceReplicate, pur60]
  refine rS c60_rl c60_rr rfl ?_
  refine run_region rfl ?_
  simp only [sX, simprocAttr, -List.reduceReplicate]
  refine call_of (peek_ok _ _ cb s a 0 _ hr hw (by omega)) ?_
  rintro v H2 ⟨rfl, h2⟩
  subst h2
  unfold pkV
  simp only [sX, simprocAttr, -List.reduceReplicate]
  refine rS c60_rrl c60_rrr rfl ?_
  refine run_region rfl ?_
  simp only [sX, simprocAttr, -List.reduceReplicate, hr', hlim, i1]
  refine rS c60_rrrl c60_rrrr rfl ?_
  refine rS c60_rrrll c60_rrrlr rfl ?_
  refine run_regionG rfl c60_rrrll_gs ?_
  simp only [sX, simprocAttr, -List.reduceReplicate]
  refine rF c60_rrrlrt c60_rrrlre rfl rfl ?_
  refine run_skip rfl ?_
  simp only [sP]
  refine rS c60_rrrrl c60_rrrrr rfl ?_
  refine run_region rfl ?_
  simp only [sX, simprocAttr, -List.reduceReplicate]
  refine call_of (peek_ok _ _ cb s (a + 1) 0 _ (hr1 1) hw1 (by omega)) ?_
  rintro v H2 ⟨rfl, h2⟩
  subst h2
  unfold pkV
  simp only [sX, simprocAttr, -List.reduceReplicate]
  refine rS c60_rrrrrl c60_rrrrrr rfl ?_
  refine run_region rfl ?_
  simp only [sX, simprocAttr, -List.reduceReplicate, hlt, hlim, i2]
  refine rS c60_rrrrrrl c60_rrrrrrr rfl ?_
  refine run_block (b := c60_rrrrrrlb) rfl ?_
  refine rS c60_rrrrrrlbl c60_rrrrrrlbr rfl ?_
  refine run_region rfl ?_
  simp only [sX, simprocAttr, -List.reduceReplicate]
  refine rF c60_rrrrrrlbrt c60_rrrrrrlbre rfl rfl ?_
  refine rS c60_rrrrrrlbrel c60_rrrrrrlbrer rfl ?_
  refine run_region rfl ?_
  simp only [sX, simprocAttr, -List.reduceReplicate, e1]
  refine rF c60_rrrrrrlbrert c60_rrrrrrlbrere rfl rfl ?_
  refine rS c60_rrrrrrlbrerel c60_rrrrrrlbrerer rfl ?_
  refine run_region rfl ?_
  simp only [sX, simprocAttr, -List.reduceReplicate, e2]
  refine rF c60_rrrrrrlbrerert c60_rrrrrrlbrerere rfl rfl ?_
  refine rS c60_rrrrrrlbrererel c60_rrrrrrlbrererer rfl ?_
  refine run_regionG rfl c60_rrrrrrlbrererel_gs ?_
  simp only [sX, simprocAttr, -List.reduceReplicate, e3, e4]
  refine rF c60_rrrrrrlbrererert c60_rrrrrrlbrererere rfl rfl ?_
  refine run_skip rfl ?_
  simp only [sP]
  refine rS c60_rrrrrrrl c60_rrrrrrrr rfl ?_
  refine run_region rfl ?_
  simp only [sX, simprocAttr, -List.reduceReplicate, j1, k1]
  refine rS c60_rrrrrrrrl c60_rrrrrrrrr rfl ?_
  refine rS c60_rrrrrrrrll c60_rrrrrrrrlr rfl ?_
  refine run_region rfl ?_
  simp only [sX, simprocAttr, -List.reduceReplicate]
  refine run_block (b := c60_rrrrrrrrlrb) rfl ?_
  (refine run_loopk (b := c60_rrrrrrrrlrbo) rfl keep60_17 ?_; simp only [sC, Nat.reduceBEq, Nat.reduceAdd])
  refine rS c60_rrrrrrrrlrbol c60_rrrrrrrrlrbor rfl ?_
  refine rS c60_rrrrrrrrlrboll c60_rrrrrrrrlrbolr rfl ?_
  refine run_region rfl ?_
  simp only [sX, simprocAttr, -List.reduceReplicate]
  refine rT c60_rrrrrrrrlrbolrt c60_rrrrrrrrlrbolre rfl rfl ?_
  refine run_skip rfl ?_
  simp only [sP]
  refine rS c60_rrrrrrrrlrborl c60_rrrrrrrrlrborr rfl ?_
  refine run_block (b := c60_rrrrrrrrlrborlb) rfl ?_
  refine rS c60_rrrrrrrrlrborlbl c60_rrrrrrrrlrborlbr rfl ?_
  refine run_region rfl ?_
  simp only [sX, simprocAttr, -List.reduceReplicate]
  refine call_of (peek_ok _ _ cb s (a + 2) 0 _ (hr1 2) hw2 (by omega)) ?_
  rintro v H2 ⟨rfl, h2⟩
  subst h2
  unfold pkV
  simp only [sX, simprocAttr, -List.reduceReplicate]
  refine rS c60_rrrrrrrrlrborlbrl c60_rrrrrrrrlrborlbrr rfl ?_
  refine rS c60_rrrrrrrrlrborlbrll c60_rrrrrrrrlrborlbrlr rfl ?_
  refine run_regionG rfl c60_rrrrrrrrlrborlbrll_gs ?_
  simp only [sX, simprocAttr, -List.reduceReplicate, e5, e6]
  refine rF c60_rrrrrrrrlrborlbrlrt c60_rrrrrrrrlrborlbrlre rfl rfl ?_
  refine run_skip rfl ?_
  simp only [sP]
  refine rS c60_rrrrrrrrlrborlbrrl c60_rrrrrrrrlrborlbrrr rfl ?_
  refine run_region rfl ?_
  simp only [sX, simprocAttr, -List.reduceReplicate, j2, k2, l1, l2]
  refine run_region rfl ?_
  simp only [sX, simprocAttr, -List.reduceReplicate, hlt, hlim, i3]
  refine run_region rfl ?_
  simp only [sX, simprocAttr, -List.reduceReplicate]
  (refine run_loopk (b := c60_rrrrrrrrlrbo) rfl keep60_17 ?_; simp only [sC, Nat.reduceBEq, Nat.reduceAdd])
  refine rS c60_rrrrrrrrlrbol c60_rrrrrrrrlrbor rfl ?_
  refine rS c60_rrrrrrrrlrboll c60_rrrrrrrrlrbolr rfl ?_
  refine run_region rfl ?_
  simp only [sX, simprocAttr, -List.reduceReplicate]
  refine rT c60_rrrrrrrrlrbolrt c60_rrrrrrrrlrbolre rfl rfl ?_
  refine run_skip rfl ?_
  simp only [sP]
  refine rS c60_rrrrrrrrlrborl c60_rrrrrrrrlrborr rfl ?_
  refine run_block (b := c60_rrrrrrrrlrborlb) rfl ?_
  refine rS c60_rrrrrrrrlrborlbl c60_rrrrrrrrlrborlbr rfl ?_
  refine run_region rfl ?_
  simp only [sX, simprocAttr, -List.reduceReplicate]
  refine call_of (peek_ok _ _ cb s (a + 3) 0 _ (hr1 3) hw3 (by omega)) ?_
  rintro v H2 ⟨rfl, h2⟩
  subst h2
  unfold pkV
  simp only [sX, simprocAttr, -List.reduceReplicate]
  refine rS c60_rrrrrrrrlrborlbrl c60_rrrrrrrrlrborlbrr rfl ?_
  refine rS c60_rrrrrrrrlrborlbrll c60_rrrrrrrrlrborlbrlr rfl ?_
  refine run_regionG rfl c60_rrrrrrrrlrborlbrll_gs ?_
  simp only [sX, simprocAttr, -List.reduceReplicate, e7, e8]
  refine rF c60_rrrrrrrrlrborlbrlrt c60_rrrrrrrrlrborlbrlre rfl rfl ?_
  refine run_skip rfl ?_
  simp only [sP]
  refine rS c60_rrrrrrrrlrborlbrrl c60_rrrrrrrrlrborlbrrr rfl ?_
  refine run_region rfl ?_
  simp only [sX, simprocAttr, -List.reduceReplicate, j3, k3, l3, l4]
  refine run_region rfl ?_
  simp only [sX, simprocAttr, -List.reduceReplicate, hlt, hlim, i4]
  refine run_region rfl ?_
  simp only [sX, simprocAttr, -List.reduceReplicate]
  (refine run_loopk (b := c60_rrrrrrrrlrbo) rfl keep60_17 ?_; simp only [sC, Nat.reduceBEq, Nat.reduceAdd])
  refine rS c60_rrrrrrrrlrbol c60_rrrrrrrrlrbor rfl ?_
  refine rS c60_rrrrrrrrlrboll c60_rrrrrrrrlrbolr rfl ?_
  refine run_region rfl ?_
  simp only [sX, simprocAttr, -List.reduceReplicate]
  refine rF c60_rrrrrrrrlrbolrt c60_rrrrrrrrlrbolre rfl rfl ?_
  refine run_exit rfl ?_
  simp only [sP, if_true]
  refine rS c60_rrrrrrrrrl c60_rrrrrrrrrr rfl ?_
  refine run_region rfl ?_
  simp only [sX, simprocAttr, -List.reduceReplicate, l5]
  refine run_ret rfl ?_
  (simp only [sP]; refine ⟨_, (by rw [resultsA_eq Try.results60]; simp only [sR, List.mapM_cons, List.mapM_nil]; rfl), ?_⟩)
  exact ⟨rfl, trivial⟩

end Go.Proofs.Ytmgofjgfmcmceaa
end
section
namespace Go.Proofs.Ytmgofjgfmcmceaa
open Go.RowKit
set_option maxRecDepth 4000
set_option maxHeartbeats 2000000

theorem hd_oct (x : Nat) (r : List UInt8) (n : Int) (h : n ≠ 92) : hd (octL x ++ r) n = false := by
  simp only [octL, List.cons_append, hd, decide_eq_false_iff_not]
  intro h'; apply h; rw [← h']; rfl
/-- What an item has got. -/
def GotS (H : Hp) (cb : Nat) (s : ByteArray) (a : Nat) (t : S4) (v : Value) (H1 : Hp) : Prop :=
  v = .tuple #[setV t, .bool true] ∧ H.length ≤ H1.length ∧ (∀ b, b < H.length → b ≠ cb → getO H1 b = getO H b) ∧ isCr H1 cb s a
theorem item_1 (lim : Nat) (H : Hp) (cb : Nat) (s : ByteArray) (a x : Nat) (hx : x < 256) (c : UInt8) (r : List UInt8) (hlim : lim ≤ cb) (hr : isCr H cb s a) (hw : tl s a = octL x ++ c :: r) (hc : c.toNat ≠ 45) (hsz : a + 6 < 9223372036854775808) :
    CallEx X lim 55 [.pointer (some ⟨cb, 0, none⟩)] H (GotS H cb s (a + 4) (S4.z.put x)) := by
  have hlt := getO_lt hr
  have hr1 : isCr (H.set cb (some ⟨true, 0, [.string s, .int .i64 (a + 4 : Nat)]⟩)) cb s (a + 4) := isCr.set hlt
  have hw4 : tl s (a + 4) = c :: r := tl_app (w := octL x) hw
  have hc' : hd (c :: r) 45 = false := by simp only [hd, decide_eq_false_iff_not]; omega
  have hpk : ∃ (u : Int) (o : Bool), pkV (tl s (a + 4 + 1)) = .tuple #[.int .u8 u, .bool o] := by
    cases tl s (a + 4 + 1) with
    | nil => exact ⟨0, false, rfl⟩
    | cons c r => exact ⟨c.toNat, true, rfl⟩
  obtain ⟨u, o, hu⟩ := hpk
  (refine call_intro fun55 name55 body55 ?_; simp only [Try.ntmps55, List.map_cons, List.map_nil, List.length_cons, List.length_nil, Nat.zero_add, Nat.reduceSub, List.replicate_succ, List.replicate_zero, List.cons_append, List.nil_append])
  refine rS c55_l c55_r rfl ?_
  refine run_region rfl ?_
  simp only [sX, simprocAttr, -List.reduceReplicate, pur55]
  refine rS c55_rl c55_rr rfl ?_
  refine rS c55_rll c55_rlr rfl ?_
  refine run_regionG rfl c55_rll_gs ?_
  simp only [sX, simprocAttr, -List.reduceReplicate]
  refine call_of (cis_ok _ _ cb s a 0 _ _ hr hw (by omega)) ?_
  rintro v H2 ⟨rfl, h2⟩
  subst h2
  rw [hd_oct _ _ _ (by decide)]
  simp only [sX, simprocAttr, -List.reduceReplicate]
  refine rF c55_rlrt c55_rlre rfl rfl ?_
  refine run_skip rfl ?_
  simp only [sP]
  refine rS c55_rrl c55_rrr rfl ?_
  refine run_region rfl ?_
  simp only [sX, simprocAttr, -List.reduceReplicate]
  refine call_of (end_ok _ _ cb s a x hx _ hlim hr hw (by omega)) ?_
  rintro v H2 ⟨rfl, h2⟩
  subst h2
  simp only [sX, simprocAttr, -List.reduceReplicate]
  refine rS c55_rrrl c55_rrrr rfl ?_
  refine rS c55_rrrll c55_rrrlr rfl ?_
  refine run_region rfl ?_
  simp only [sX, simprocAttr, -List.reduceReplicate]
  refine rF c55_rrrlrt c55_rrrlre rfl rfl ?_
  refine run_skip rfl ?_
  simp only [sP]
  refine rS c55_rrrrl c55_rrrrr rfl ?_
  refine rS c55_rrrrll c55_rrrrlr rfl ?_
  refine run_region rfl ?_
  simp only [sX, simprocAttr, -List.reduceReplicate]
  refine call_of (peek_ok _ _ cb s (a + 4) 1 _ hr1 rfl (by omega)) ?_
  rintro v H2 ⟨rfl, h2⟩
  subst h2
  rw [hu]
  simp only [sX, simprocAttr, -List.reduceReplicate]
  refine rS c55_rrrrlrl c55_rrrrlrr rfl ?_
  refine run_regionG rfl c55_rrrrlrl_gs ?_
  simp only [sX, simprocAttr, -List.reduceReplicate]
  refine call_of (cis_ok _ _ cb s (a + 4) 0 _ _ hr1 hw4 (by omega)) ?_
  rintro v H2 ⟨rfl, h2⟩
  subst h2
  rw [hc']
  simp only [sX, simprocAttr, -List.reduceReplicate]
  refine rT c55_rrrrlrrt c55_rrrrlrre rfl rfl ?_
  refine rS c55_rrrrlrrtl c55_rrrrlrrtr rfl ?_
  refine run_region rfl ?_
  simp only [sX, simprocAttr, -List.reduceReplicate]
  refine call_of (of_ok _ _ _ true x hx (getO_append_of_len (by simp))) ?_
  rintro v H2 ⟨rfl, h2⟩
  subst h2
  unfold setV
  simp only [sX, simprocAttr, -List.reduceReplicate]
  refine run_ret rfl ?_
  (simp only [sP]; refine ⟨_, (by rw [resultsA_eq Try.results55]; simp only [sR, List.mapM_cons, List.mapM_nil, if_true, Nat.reduceAdd]; rfl), ?_⟩)
  exact ⟨rfl, by rw [len_snoc, List.length_set]; omega, fun b hb hn => by rw [getO_snoc (by simpa using hb), getO_set_ne hn], by unfold isCr; rw [getO_snoc (by simpa using hlt)]; exact hr1⟩

theorem span_all (lim : Nat) (H : Hp) : execCall X 300 lim 61 [.int .u8 0, .int .u8 255] H = some (setV S4.full, H) := by kernel_rfl
theorem item_r (lim : Nat) (H : Hp) (cb : Nat) (s : ByteArray) (a : Nat) (r : List UInt8) (hlim : lim ≤ cb) (hr : isCr H cb s a) (hw : tl s a = octL 0 ++ 45 :: (octL 255 ++ 93 :: r)) (hsz : a + 11 < 9223372036854775808) :
    CallEx X lim 55 [.pointer (some ⟨cb, 0, none⟩)] H (GotS H cb s (a + 9) S4.full) := by
  have hlt := getO_lt hr
  have hr1 : ∀ k : Nat, isCr (H.set cb (some ⟨true, 0, [.string s, .int .i64 (a + k : Nat)]⟩)) cb s (a + k) := fun k => isCr.set hlt
  have hw4 : tl s (a + 4) = 45 :: (octL 255 ++ 93 :: r) := tl_app (w := octL 0) hw
  have hw5 := (tl_cons hw4).2.2
  have hc : hd (45 :: (octL 255 ++ 93 :: r)) 45 = true := rfl
  have i1 : IntKind.i64.wrap (((a + 4 : Nat) : Int) + 1) = ((a + 5 : Nat) : Int) := by rw [IntWalk.i64_in _ (by omega)]; omega
  have hpk : pkV (octL 255 ++ 93 :: r) = .tuple #[.int .u8 92, .bool true] := rfl
  have e0 : ((0 : Nat) : Int) = 0 := rfl
  have e255 : ((255 : Nat) : Int) = 255 := rfl
  (refine call_intro fun55 name55 body55 ?_; simp only [Try.ntmps55, List.map_cons, List.map_nil, List.length_cons, List.length_nil, Nat.zero_add, Nat.reduceSub, List.replicate_succ, List.replicate_zero, List.cons_append, List.nil_append])
  refine rS c55_l c55_r rfl ?_
  refine run_region rfl ?_
  simp only [sX, simprocAttr, -List.reduceReplicate, pur55]
  refine rS c55_rl c55_rr rfl ?_
  refine rS c55_rll c55_rlr rfl ?_
  refine run_regionG rfl c55_rll_gs ?_
  simp only [sX, simprocAttr, -List.reduceReplicate]
  refine call_of (cis_ok _ _ cb s a 0 _ _ hr hw (by omega)) ?_
  rintro v H2 ⟨rfl, h2⟩
  subst h2
  rw [hd_oct _ _ _ (by decide)]
  simp only [sX, simprocAttr, -List.reduceReplicate]
  refine rF c55_rlrt c55_rlre rfl rfl ?_
  refine run_skip rfl ?_
  simp only [sP]
  refine rS c55_rrl c55_rrr rfl ?_
  refine run_region rfl ?_
  simp only [sX, simprocAttr, -List.reduceReplicate]
  refine call_of (end_ok _ _ cb s a 0 (by decide) _ hlim hr hw (by omega)) ?_
  rintro v H2 ⟨rfl, h2⟩
  subst h2
  simp only [sX, simprocAttr, -List.reduceReplicate, e0]
  refine rS c55_rrrl c55_rrrr rfl ?_
  refine rS c55_rrrll c55_rrrlr rfl ?_
  refine run_region rfl ?_
  simp only [sX, simprocAttr, -List.reduceReplicate]
  refine rF c55_rrrlrt c55_rrrlre rfl rfl ?_
  refine run_skip rfl ?_
  simp only [sP]
  refine rS c55_rrrrl c55_rrrrr rfl ?_
  refine rS c55_rrrrll c55_rrrrlr rfl ?_
  refine run_region rfl ?_
  simp only [sX, simprocAttr, -List.reduceReplicate]
  refine call_of (peek_ok _ _ cb s (a + 4) 1 _ (hr1 4) hw5 (by omega)) ?_
  rintro v H2 ⟨rfl, h2⟩
  subst h2
  rw [hpk]
  simp only [sX, simprocAttr, -List.reduceReplicate]
  refine rS c55_rrrrlrl c55_rrrrlrr rfl ?_
  refine run_regionG rfl c55_rrrrlrl_gs ?_
  simp only [sX, simprocAttr, -List.reduceReplicate]
  refine call_of (cis_ok _ _ cb s (a + 4) 0 _ _ (hr1 4) hw4 (by omega)) ?_
  rintro v H2 ⟨rfl, h2⟩
  subst h2
  rw [hc]
  simp only [sX, simprocAttr, -List.reduceReplicate]
  refine call_of (cis_ok _ _ cb s (a + 4) 1 _ _ (hr1 4) hw5 (by omega)) ?_
  rintro v H2 ⟨rfl, h2⟩
  subst h2
  rw [hd_oct _ _ _ (by decide)]
  simp only [sX, simprocAttr, -List.reduceReplicate]
  refine rF c55_rrrrlrrt c55_rrrrlrre rfl rfl ?_
  refine run_skip rfl ?_
  simp only [sP]
  refine rS c55_rrrrrl c55_rrrrrr rfl ?_
  refine run_region rfl ?_
  simp only [sX, simprocAttr, -List.reduceReplicate, hlt, hlim, i1]
  refine rS c55_rrrrrrl c55_rrrrrrr rfl ?_
  refine rS c55_rrrrrrll c55_rrrrrrlr rfl ?_
  refine run_regionG rfl c55_rrrrrrll_gs ?_
  simp only [sX, simprocAttr, -List.reduceReplicate]
  refine call_of (cis_ok _ _ cb s (a + 5) 0 _ _ (hr1 5) hw5 (by omega)) ?_
  rintro v H2 ⟨rfl, h2⟩
  subst h2
  rw [hd_oct _ _ _ (by decide)]
  simp only [sX, simprocAttr, -List.reduceReplicate]
  refine rF c55_rrrrrrlrt c55_rrrrrrlre rfl rfl ?_
  refine run_skip rfl ?_
  simp only [sP]
  refine rS c55_rrrrrrrl c55_rrrrrrrr rfl ?_
  refine run_region rfl ?_
  simp only [sX, simprocAttr, -List.reduceReplicate]
  refine call_of (end_ok _ _ cb s (a + 5) 255 (by decide) _ hlim (hr1 5) hw5 (by omega)) ?_
  rintro v H2 ⟨rfl, h2⟩
  subst h2
  simp only [sX, simprocAttr, -List.reduceReplicate, e255]
  refine rS c55_rrrrrrrrl c55_rrrrrrrrr rfl ?_
  refine run_regionG rfl c55_rrrrrrrrl_gs ?_
  simp only [sX, simprocAttr, -List.reduceReplicate]
  refine call_of (call_eq (R := fun v H1 => v = setV S4.full ∧ H1 = _) (span_all _ _) ⟨rfl, rfl⟩) ?_
  rintro v H2 ⟨rfl, h2⟩
  subst h2
  unfold setV
  simp only [sX, simprocAttr, -List.reduceReplicate]
  refine run_ret rfl ?_
  (simp only [sP]; refine ⟨_, (by rw [resultsA_eq Try.results55]; simp only [sR, List.mapM_cons, List.mapM_nil, if_true, Nat.reduceAdd]; rfl), ?_⟩)
  exact ⟨rfl, by rw [List.length_set]; omega, fun b hb hn => by rw [getO_set_ne hn], hr1 9⟩
end Go.Proofs.Ytmgofjgfmcmceaa
end
section
namespace Go.Proofs.Ytmgofjgfmcmceaa
open Go.RowKit
set_option maxRecDepth 4000
set_option maxHeartbeats 4000000

def S4.or (s t : S4) : S4 := ⟨s.a ||| t.a, s.b ||| t.b, s.c ||| t.c, s.d ||| t.d⟩
theorem or_ok (lim : Nat) (H : Hp) (s t : S4) : CallEx X lim 56 [setV s, setV t] H fun v H1 => v = setV (s.or t) ∧ H1 = H := by
  refine call_eq (or_eq lim H _ _ _ _ _ _ _ _) ⟨?_, rfl⟩
  simp only [ibit_or, setV, S4.or]
theorem or_ok' (lim : Nat) (H : Hp) (s t : S4) : CallEx X lim 56 [.agg #[.int .u64 s.a.toNat, .int .u64 s.b.toNat, .int .u64 s.c.toNat, .int .u64 s.d.toNat], .agg #[.int .u64 t.a.toNat, .int .u64 t.b.toNat, .int .u64 t.c.toNat, .int .u64 t.d.toNat]] H fun v H1 => v = setV (s.or t) ∧ H1 = H := or_ok lim H s t
/-- These bytes' set, over another. -/
def putAll (s : S4) (l : List Nat) : S4 := l.foldl (fun s x => s.or (S4.z.put x)) s

theorem br_loop (lim : Nat) (R : Value → Hp → Prop) (cb : Nat) (s : ByteArray) (r : List UInt8) (hlim : lim ≤ cb) : ∀ (l : List Nat) (s0 : S4) (a : Nat) (H : Hp) (t : List TV), (∀ x, x ∈ l → x < 256) → isCr H cb s a → tl s a = l.flatMap octL ++ 93 :: r → a + 4 * l.length + 6 < 9223372036854775808 →
    clrF [4, 7, 8, 9, 24] 0 t = (.undef :: .undef :: .undef :: .undef :: .box [.int .u64 s0.a.toNat, .int .u64 s0.b.toNat, .int .u64 s0.c.toNat, .int .u64 s0.d.toNat] :: .undef :: .undef :: .val (.pointer (some ⟨cb, 0, none⟩)) :: .val (.bool false) :: .val (.bool false) :: .undef :: .undef :: .undef :: .undef :: .undef :: .undef :: .undef :: .undef :: .undef :: .undef :: .undef :: .undef :: .undef :: .undef :: .val (.pointer (some ⟨cb, 0, none⟩)) :: .undef :: .undef :: .undef :: .undef :: .undef :: .undef :: .undef :: .undef :: .undef :: .undef :: .undef :: .undef :: .undef :: .undef :: .undef :: .undef :: .undef :: .undef :: .undef :: .undef :: .undef :: .undef :: .undef :: .undef :: .undef :: .undef :: .undef :: .undef :: .undef :: .undef :: .undef :: .undef :: .undef :: .undef :: .undef :: .undef :: []) →
    (∀ H1, H.length ≤ H1.length → (∀ b, b < H.length → b ≠ cb → getO H1 b = getO H b) → R (.tuple #[setV (putAll s0 l), .int .i64 (a + 4 * l.length + 1 : Nat), .bool true]) H1) →
    RUN X 49 lim (fun t1 H1 => ∃ v, resultsA X.P Try.f49 t1 = some v ∧ R v H1) [.blk 0, .code c49_rrrrrr] (.loop c49_rrrrrlrbo) t H
  | [], s0, a, H, t, hx, hr, hw, hsz, ht, hR => by
    have hr' := hr
    unfold isCr at hr'
    have i1 : IntKind.i64.wrap ((a : Int) + 1) = ((a + 1 : Nat) : Int) := by rw [IntWalk.i64_in _ (by omega)]; omega
    have hc : hd (93 :: r) 93 = true := rfl
    (refine run_loopk (b := c49_rrrrrlrbo) rfl keep49_8 ?_; rw [ht])
    refine rS c49_rrrrrlrbol c49_rrrrrlrbor rfl ?_
    refine rS c49_rrrrrlrboll c49_rrrrrlrbolr rfl ?_
    refine run_regionG rfl c49_rrrrrlrboll_gs ?_
    simp only [sX, simprocAttr, -List.reduceReplicate]
    refine call_of (cis_ok _ _ cb s a 0 _ _ hr hw (by omega)) ?_
    rintro v H2 ⟨rfl, h2⟩
    subst h2
    simp only [List.flatMap_nil, List.nil_append, hc]
    simp only [sX, simprocAttr, -List.reduceReplicate]
    refine rF c49_rrrrrlrbolrt c49_rrrrrlrbolre rfl rfl ?_
    refine run_exit rfl ?_
    simp only [sP, if_true]
    refine rS c49_rrrrrrl c49_rrrrrrr rfl ?_
    refine rS c49_rrrrrrll c49_rrrrrrlr rfl ?_
    refine run_region rfl ?_
    simp only [sX, simprocAttr, -List.reduceReplicate]
    refine rF c49_rrrrrrlrt c49_rrrrrrlre rfl rfl ?_
    refine run_skip rfl ?_
    simp only [sP]
    refine rS c49_rrrrrrrl c49_rrrrrrrr rfl ?_
    refine run_draw rfl c49_rrrrrrrl_ok c49_rrrrrrrl_dr ?_
    simp only [sX, simprocAttr, -List.reduceReplicate, hr', i1]
    refine run_ret rfl ?_
    (simp only [sP]; refine ⟨_, (by rw [resultsA_eq Try.results49]; simp only [sR, List.mapM_cons, List.mapM_nil, if_true, Nat.reduceAdd]; rfl), ?_⟩)
    exact hR _ (Nat.le_refl _) (fun _ _ _ => rfl)
  | x :: l, s0, a, H, t, hx, hr, hw, hsz, ht, hR => by
    have hlt := getO_lt hr
    have hx0 : x < 256 := hx x (by simp)
    have hw' : tl s a = octL x ++ (l.flatMap octL ++ 93 :: r) := by rw [hw, List.flatMap_cons, List.append_assoc]
    have hw2 : ∃ c r', l.flatMap octL ++ 93 :: r = c :: r' ∧ c.toNat ≠ 45 := by
      cases l with
      | nil => exact ⟨93, r, rfl, by decide⟩
      | cons y l => exact ⟨92, _, rfl, by decide⟩
    obtain ⟨c, r', hcr, hc45⟩ := hw2
    simp only [List.length_cons] at hsz
    (refine run_loopk (b := c49_rrrrrlrbo) rfl keep49_8 ?_; rw [ht])
    refine rS c49_rrrrrlrbol c49_rrrrrlrbor rfl ?_
    refine rS c49_rrrrrlrboll c49_rrrrrlrbolr rfl ?_
    refine run_regionG rfl c49_rrrrrlrboll_gs ?_
    simp only [sX, simprocAttr, -List.reduceReplicate]
    refine call_of (cis_ok _ _ cb s a 0 _ _ hr hw' (by omega)) ?_
    rintro v H2 ⟨rfl, h2⟩
    subst h2
    rw [hd_oct _ _ _ (by decide)]
    simp only [sX, simprocAttr, -List.reduceReplicate]
    refine rT c49_rrrrrlrbolrt c49_rrrrrlrbolre rfl rfl ?_
    refine run_skip rfl ?_
    simp only [sP]
    refine rS c49_rrrrrlrborl c49_rrrrrlrborr rfl ?_
    refine run_block (b := c49_rrrrrlrborlb) rfl ?_
    refine rS c49_rrrrrlrborlbl c49_rrrrrlrborlbr rfl ?_
    refine run_region rfl ?_
    simp only [sX, simprocAttr, -List.reduceReplicate]
    refine call_of (item_1 _ _ cb s a x hx0 c r' hlim hr (by rw [hw', hcr]) hc45 (by omega)) ?_
    rintro v H1 ⟨rfl, hl1, hk1, hr1⟩
    unfold setV
    simp only [sX, simprocAttr, -List.reduceReplicate]
    refine rS c49_rrrrrlrborlbrl c49_rrrrrlrborlbrr rfl ?_
    refine rS c49_rrrrrlrborlbrll c49_rrrrrlrborlbrlr rfl ?_
    refine run_region rfl ?_
    simp only [sX, simprocAttr, -List.reduceReplicate]
    refine rF c49_rrrrrlrborlbrlrt c49_rrrrrlrborlbrlre rfl rfl ?_
    refine run_skip rfl ?_
    simp only [sP]
    refine run_region rfl ?_
    simp only [sX, simprocAttr, -List.reduceReplicate]
    refine call_of (or_ok' _ _ s0 (S4.z.put x)) ?_
    rintro v H2 ⟨rfl, h2⟩
    subst h2
    unfold setV
    simp only [sX, simprocAttr, -List.reduceReplicate]
    refine run_region rfl ?_
    simp only [sX, simprocAttr, -List.reduceReplicate]
    refine br_loop lim R cb s r hlim l (s0.or (S4.z.put x)) (a + 4) _ _ (fun y hy => hx y (by simp [hy])) hr1 (tl_app (w := octL x) hw') (by omega) (by simp only [sC, Nat.reduceBEq, Nat.reduceAdd]) ?_
    intro H3 hl3 hk3
    have := hR H3 (by omega) (fun b hb hn => by rw [hk3 b (by omega) hn, hk1 b hb hn])
    rw [List.length_cons, show a + 4 * (l.length + 1) + 1 = a + 4 + 4 * l.length + 1 by omega] at this
    exact this
end Go.Proofs.Ytmgofjgfmcmceaa
end
section
namespace Go.Proofs.Ytmgofjgfmcmceaa
open Go.RowKit
set_option maxRecDepth 4000
set_option maxHeartbeats 4000000

/-- What brackets' text has got: a set, and where it ends; nothing that was there is changed. -/
def GotB (H : Hp) (a : Nat) (t : S4) (v : Value) (H1 : Hp) : Prop :=
  v = .tuple #[setV t, .int .i64 a, .bool true] ∧ H.length ≤ H1.length ∧ ∀ b, b < H.length → getO H1 b = getO H b

theorem bracket_l (lim : Nat) (H : Hp) (s : ByteArray) (a x : Nat) (l : List Nat) (r : List UInt8) (hx : ∀ y, y ∈ x :: l → y < 256) (hw : tl s a = (x :: l).flatMap octL ++ 93 :: r) (hsz : a + 4 * (x :: l).length + 6 < 9223372036854775808) :
    CallEx X lim 49 [.string s, .int .i64 a] H (GotB H (a + 4 * (x :: l).length + 1) (putAll S4.z (x :: l))) := by
  have e0 : decide ((a : Int) < 0) = false := by simp
  have hx0 : x < 256 := hx x (by simp)
  have hw' : tl s a = octL x ++ (l.flatMap octL ++ 93 :: r) := by rw [hw, List.flatMap_cons, List.append_assoc]
  have hw2 : ∃ c r', l.flatMap octL ++ 93 :: r = c :: r' ∧ c.toNat ≠ 45 := by
    cases l with
    | nil => exact ⟨93, r, rfl, by decide⟩
    | cons y l => exact ⟨92, _, rfl, by decide⟩
  obtain ⟨c, r', hcr, hc45⟩ := hw2
  simp only [List.length_cons] at hsz
  have e1 : decide ((s.size : Int) < (a : Int)) = false := by have := (tl_cons hw').1; simp; omega
  have hr0 : isCr (H ++ [some ⟨true, 0, [.string s, .int .i64 a]⟩]) H.length s a := getO_append_new
  (refine call_intro fun49 name49 body49 ?_; simp only [Try.ntmps49, List.map_cons, List.map_nil, List.length_cons, List.length_nil, Nat.zero_add, Nat.reduceAdd, Nat.reduceSub, List.replicate_succ, List.replicate_zero, List.cons_append, List.nil_append])
  refine rS c49_l c49_r rfl ?_
  refine run_region rfl ?_
  simp only [sX, simprocAttr, -List.reduceReplicate, pur49]
  refine rS c49_rl c49_rr rfl ?_
  refine rS c49_rll c49_rlr rfl ?_
  refine run_regionG rfl c49_rll_gs ?_
  simp only [sX, simprocAttr, -List.reduceReplicate, e0, e1]
  refine rF c49_rlrt c49_rlre rfl rfl ?_
  refine run_skip rfl ?_
  simp only [sP]
  refine rS c49_rrl c49_rrr rfl ?_
  refine run_region rfl ?_
  simp only [sX, simprocAttr, -List.reduceReplicate]
  refine rS c49_rrrl c49_rrrr rfl ?_
  refine run_region rfl ?_
  simp only [sX, simprocAttr, -List.reduceReplicate]
  refine call_of (cis_ok _ _ H.length s a 0 _ _ hr0 hw' (by omega)) ?_
  rintro v H2 ⟨rfl, h2⟩
  subst h2
  rw [hd_oct _ _ _ (by decide)]
  simp only [sX, simprocAttr, -List.reduceReplicate]
  refine rS c49_rrrrl c49_rrrrr rfl ?_
  refine rS c49_rrrrll c49_rrrrlr rfl ?_
  refine run_region rfl ?_
  simp only [sX, simprocAttr, -List.reduceReplicate]
  refine rF c49_rrrrlrt c49_rrrrlre rfl rfl ?_
  refine run_skip rfl ?_
  simp only [sP]
  refine rS c49_rrrrrl c49_rrrrrr rfl ?_
  refine rS c49_rrrrrll c49_rrrrrlr rfl ?_
  refine run_region rfl ?_
  simp only [sX, simprocAttr, -List.reduceReplicate]
  refine run_block (b := c49_rrrrrlrb) rfl ?_
  (refine run_loopk (b := c49_rrrrrlrbo) rfl keep49_8 ?_; simp only [sC, Nat.reduceBEq, Nat.reduceAdd])
  refine rS c49_rrrrrlrbol c49_rrrrrlrbor rfl ?_
  refine rS c49_rrrrrlrboll c49_rrrrrlrbolr rfl ?_
  refine run_regionG rfl c49_rrrrrlrboll_gs ?_
  simp only [sX, simprocAttr, -List.reduceReplicate]
  refine rT c49_rrrrrlrbolrt c49_rrrrrlrbolre rfl rfl ?_
  refine run_skip rfl ?_
  simp only [sP]
  refine rS c49_rrrrrlrborl c49_rrrrrlrborr rfl ?_
  refine run_block (b := c49_rrrrrlrborlb) rfl ?_
  refine rS c49_rrrrrlrborlbl c49_rrrrrlrborlbr rfl ?_
  refine run_region rfl ?_
  simp only [sX, simprocAttr, -List.reduceReplicate]
  refine call_of (item_1 _ _ H.length s a x hx0 c r' (Nat.le_refl _) hr0 (by rw [hw', hcr]) hc45 (by omega)) ?_
  rintro v H1 ⟨rfl, hl1, hk1, hr1⟩
  unfold setV
  simp only [sX, simprocAttr, -List.reduceReplicate, Nat.le_refl]
  refine rS c49_rrrrrlrborlbrl c49_rrrrrlrborlbrr rfl ?_
  refine rS c49_rrrrrlrborlbrll c49_rrrrrlrborlbrlr rfl ?_
  refine run_region rfl ?_
  simp only [sX, simprocAttr, -List.reduceReplicate]
  refine rF c49_rrrrrlrborlbrlrt c49_rrrrrlrborlbrlre rfl rfl ?_
  refine run_skip rfl ?_
  simp only [sP]
  refine run_region rfl ?_
  simp only [sX, simprocAttr, -List.reduceReplicate, Nat.le_refl]
  refine call_of (or_ok' _ _ S4.z (S4.z.put x)) ?_
  rintro v H2 ⟨rfl, h2⟩
  subst h2
  unfold setV
  simp only [sX, simprocAttr, -List.reduceReplicate, Nat.le_refl]
  refine run_region rfl ?_
  simp only [sX, simprocAttr, -List.reduceReplicate]
  rw [len_snoc] at hl1 hk1
  refine br_loop _ _ H.length s r (Nat.le_refl _) l (S4.z.or (S4.z.put x)) (a + 4) _ _ (fun y hy => hx y (by simp [hy])) hr1 (tl_app (w := octL x) hw') (by omega) (by simp only [sC, Nat.reduceBEq, Nat.reduceAdd]) ?_
  intro H3 hl3 hk3
  refine ⟨?_, by omega, fun b hb => by rw [hk3 b (by omega) (by omega), hk1 b (by omega) (by omega), getO_snoc hb]⟩
  rw [show a + 4 * (l.length + 1) + 1 = a + 4 + 4 * l.length + 1 by omega]
  rfl

theorem not_full (lim : Nat) (H : Hp) : execCall X 60 lim 48 [setV S4.full] H = some (setV S4.z, H) := by kernel_rfl
theorem bracket_all (lim : Nat) (H : Hp) (s : ByteArray) (a : Nat) (r : List UInt8) (hw : tl s a = 94 :: (octL 0 ++ 45 :: (octL 255 ++ 93 :: r))) (hsz : a + 12 < 9223372036854775808) :
    CallEx X lim 49 [.string s, .int .i64 a] H (GotB H (a + 11) S4.z) := by
  have e0 : decide ((a : Int) < 0) = false := by simp
  have e1 : decide ((s.size : Int) < (a : Int)) = false := by have := (tl_cons hw).1; simp; omega
  have hr0 : isCr (H ++ [some ⟨true, 0, [.string s, .int .i64 a]⟩]) H.length s a := getO_append_new
  have hw1 := (tl_cons hw).2.2
  have hw2 : tl s (a + 1 + 9) = 93 :: r := tl_app (w := octL 0 ++ 45 :: octL 255) (by rw [hw1, List.append_assoc]; rfl)
  have hc : hd (94 :: (octL 0 ++ 45 :: (octL 255 ++ 93 :: r))) 94 = true := rfl
  have hc2 : hd (93 :: r) 93 = true := rfl
  have i1 : IntKind.i64.wrap ((a : Int) + 1) = ((a + 1 : Nat) : Int) := by rw [IntWalk.i64_in _ (by omega)]; omega
  have i2 : IntKind.i64.wrap (((a + 1 + 9 : Nat) : Int) + 1) = ((a + 11 : Nat) : Int) := by rw [IntWalk.i64_in _ (by omega)]; omega
  have hlt : H.length < H.length + 1 := by omega
  have hr1 : ∀ x, isCr ((H ++ [x]).set H.length (some ⟨true, 0, [.string s, .int .i64 (a + 1 : Nat)]⟩)) H.length s (a + 1) := fun x => isCr.set (by rw [len_snoc]; omega)
  (refine call_intro fun49 name49 body49 ?_; simp only [Try.ntmps49, List.map_cons, List.map_nil, List.length_cons, List.length_nil, Nat.zero_add, Nat.reduceAdd, Nat.reduceSub, List.replicate_succ, List.replicate_zero, List.cons_append, List.nil_append])
  refine rS c49_l c49_r rfl ?_
  refine run_region rfl ?_
  simp only [sX, simprocAttr, -List.reduceReplicate, pur49]
  refine rS c49_rl c49_rr rfl ?_
  refine rS c49_rll c49_rlr rfl ?_
  refine run_regionG rfl c49_rll_gs ?_
  simp only [sX, simprocAttr, -List.reduceReplicate, e0, e1]
  refine rF c49_rlrt c49_rlre rfl rfl ?_
  refine run_skip rfl ?_
  simp only [sP]
  refine rS c49_rrl c49_rrr rfl ?_
  refine run_region rfl ?_
  simp only [sX, simprocAttr, -List.reduceReplicate]
  refine rS c49_rrrl c49_rrrr rfl ?_
  refine run_region rfl ?_
  simp only [sX, simprocAttr, -List.reduceReplicate]
  refine call_of (cis_ok _ _ H.length s a 0 _ _ hr0 hw (by omega)) ?_
  rintro v H2 ⟨rfl, h2⟩
  subst h2
  rw [hc]
  simp only [sX, simprocAttr, -List.reduceReplicate]
  refine rS c49_rrrrl c49_rrrrr rfl ?_
  refine rS c49_rrrrll c49_rrrrlr rfl ?_
  refine run_region rfl ?_
  simp only [sX, simprocAttr, -List.reduceReplicate]
  refine rT c49_rrrrlrt c49_rrrrlre rfl rfl ?_
  refine run_region rfl ?_
  simp only [sX, simprocAttr, -List.reduceReplicate, i1, Nat.le_refl]
  refine rS c49_rrrrrl c49_rrrrrr rfl ?_
  refine rS c49_rrrrrll c49_rrrrrlr rfl ?_
  refine run_region rfl ?_
  simp only [sX, simprocAttr, -List.reduceReplicate]
  refine run_block (b := c49_rrrrrlrb) rfl ?_
  (refine run_loopk (b := c49_rrrrrlrbo) rfl keep49_8 ?_; simp only [sC, Nat.reduceBEq, Nat.reduceAdd])
  refine rS c49_rrrrrlrbol c49_rrrrrlrbor rfl ?_
  refine rS c49_rrrrrlrboll c49_rrrrrlrbolr rfl ?_
  refine run_regionG rfl c49_rrrrrlrboll_gs ?_
  simp only [sX, simprocAttr, -List.reduceReplicate]
  refine rT c49_rrrrrlrbolrt c49_rrrrrlrbolre rfl rfl ?_
  refine run_skip rfl ?_
  simp only [sP]
  refine rS c49_rrrrrlrborl c49_rrrrrlrborr rfl ?_
  refine run_block (b := c49_rrrrrlrborlb) rfl ?_
  refine rS c49_rrrrrlrborlbl c49_rrrrrlrborlbr rfl ?_
  refine run_region rfl ?_
  simp only [sX, simprocAttr, -List.reduceReplicate]
  refine call_of (item_r _ _ H.length s (a + 1) r (Nat.le_refl _) (hr1 _) hw1 (by omega)) ?_
  rintro v H1 ⟨rfl, hl1, hk1, hr1⟩
  have hr1' := hr1
  unfold isCr at hr1'
  unfold setV
  simp only [sX, simprocAttr, -List.reduceReplicate, Nat.le_refl]
  refine rS c49_rrrrrlrborlbrl c49_rrrrrlrborlbrr rfl ?_
  refine rS c49_rrrrrlrborlbrll c49_rrrrrlrborlbrlr rfl ?_
  refine run_region rfl ?_
  simp only [sX, simprocAttr, -List.reduceReplicate]
  refine rF c49_rrrrrlrborlbrlrt c49_rrrrrlrborlbrlre rfl rfl ?_
  refine run_skip rfl ?_
  simp only [sP]
  refine run_region rfl ?_
  simp only [sX, simprocAttr, -List.reduceReplicate, Nat.le_refl]
  refine call_of (or_ok' _ _ S4.z S4.full) ?_
  rintro v H2 ⟨rfl, h2⟩
  subst h2
  unfold setV
  simp only [sX, simprocAttr, -List.reduceReplicate, Nat.le_refl]
  refine run_region rfl ?_
  simp only [sX, simprocAttr, -List.reduceReplicate]
  (refine run_loopk (b := c49_rrrrrlrbo) rfl keep49_8 ?_; simp only [sC, Nat.reduceBEq, Nat.reduceAdd])
  refine rS c49_rrrrrlrbol c49_rrrrrlrbor rfl ?_
  refine rS c49_rrrrrlrboll c49_rrrrrlrbolr rfl ?_
  refine run_regionG rfl c49_rrrrrlrboll_gs ?_
  simp only [sX, simprocAttr, -List.reduceReplicate]
  refine call_of (cis_ok _ _ H.length s (a + 1 + 9) 0 _ _ hr1 hw2 (by omega)) ?_
  rintro v H2 ⟨rfl, h2⟩
  subst h2
  rw [hc2]
  simp only [sX, simprocAttr, -List.reduceReplicate]
  refine rF c49_rrrrrlrbolrt c49_rrrrrlrbolre rfl rfl ?_
  refine run_exit rfl ?_
  simp only [sP, if_true]
  refine rS c49_rrrrrrl c49_rrrrrrr rfl ?_
  refine rS c49_rrrrrrll c49_rrrrrrlr rfl ?_
  refine run_region rfl ?_
  simp only [sX, simprocAttr, -List.reduceReplicate]
  refine rT c49_rrrrrrlrt c49_rrrrrrlre rfl rfl ?_
  refine run_region rfl ?_
  simp only [sX, simprocAttr, -List.reduceReplicate, Nat.le_refl]
  refine call_of (call_eq (R := fun v H1 => v = setV S4.z ∧ H1 = _) (not_full _ _) ⟨rfl, rfl⟩) ?_
  rintro v H2 ⟨rfl, h2⟩
  subst h2
  unfold setV
  simp only [sX, simprocAttr, -List.reduceReplicate, Nat.le_refl]
  refine rS c49_rrrrrrrl c49_rrrrrrrr rfl ?_
  refine run_draw rfl c49_rrrrrrrl_ok c49_rrrrrrrl_dr ?_
  simp only [sX, simprocAttr, -List.reduceReplicate, i2, hr1', Nat.le_refl]
  refine run_ret rfl ?_
  (simp only [sP]; refine ⟨_, (by rw [resultsA_eq Try.results49]; simp only [sR, List.mapM_cons, List.mapM_nil, if_true, Nat.reduceAdd]; rfl), ?_⟩)
  rw [List.length_set, len_snoc] at hl1 hk1
  exact ⟨rfl, by omega, fun b hb => by rw [hk1 b (by omega) (by omega), getO_set_ne (by omega), getO_snoc hb]⟩
end Go.Proofs.Ytmgofjgfmcmceaa
end
section
namespace Go.Proofs.Ytmgofjgfmcmceaa
open Go.RowKit
set_option maxRecDepth 4000
set_option maxHeartbeats 2000000

theorem atom_set (lim : Nat) (H : Hp) (rb : Nat) (s : ByteArray) (a e : Nat) (op : Int) (t : S4) (w0 : List UInt8) (hlim : lim ≤ rb) (hr0 : isRd H rb s a op) (hw0 : tl s a = 91 :: w0) (hsz0 : a + 1 < 9223372036854775808)
    (hB : ∀ H, CallEx X lim 49 [.string s, .int .i64 (a + 1 : Nat)] H (GotB H e t)) :
    CallEx X lim 42 [.pointer (some ⟨rb, 0, none⟩)] H (Got H rb s e op (.node 1 t [])) := by
  have hrb : rb < H.length := getO_lt hr0
  have hr0' := hr0
  unfold isRd rdC at hr0'
  have i3 : IntKind.i64.wrap ((a : Int) + 1) = ((a + 1 : Nat) : Int) := by rw [IntWalk.i64_in _ (by omega)]; omega
  (refine call_intro fun42 name42 body42 ?_; simp only [Try.ntmps42, List.map_cons, List.map_nil, List.length_cons, List.length_nil, Nat.zero_add, Nat.reduceSub, List.replicate_succ, List.replicate_zero, List.cons_append, List.nil_append])
  refine rS c42_l c42_r rfl ?_
  refine run_region rfl ?_
  simp only [sX, simprocAttr, -List.reduceReplicate, pur42]
  refine rS c42_rl c42_rr rfl ?_
  refine rS c42_rll c42_rlr rfl ?_
  refine run_region rfl ?_
  simp only [sX, simprocAttr, -List.reduceReplicate]
  refine call_of (more_tl _ hr0 hw0) ?_
  rintro v H2 ⟨rfl, h2⟩
  subst h2
  simp only [List.isEmpty_cons]
  simp only [sX, simprocAttr, -List.reduceReplicate]
  refine rF c42_rlrt c42_rlre rfl rfl ?_
  refine run_skip rfl ?_
  simp only [sP]
  refine rS c42_rrl c42_rrr rfl ?_
  refine run_region rfl ?_
  simp only [sX, simprocAttr, -List.reduceReplicate, hr0']
  refine rS c42_rrrl c42_rrrr rfl ?_
  refine run_region rfl ?_
  simp only [sX, simprocAttr, -List.reduceReplicate, hr0', strIx_cons hw0]
  refine rS c42_rrrrl c42_rrrrr rfl ?_
  refine run_region rfl ?_
  simp only [sX, simprocAttr, -List.reduceReplicate, hr0', hlim, i3]
  refine rS c42_rrrrrl c42_rrrrrr rfl ?_
  refine rS c42_rrrrrll c42_rrrrrlr rfl ?_
  refine run_region rfl ?_
  simp only [sX, simprocAttr, -List.reduceReplicate]
  refine run_block (b := c42_rrrrrlrb) rfl ?_
  refine rS c42_rrrrrlrbl c42_rrrrrlrbr rfl ?_
  refine run_region rfl ?_
  simp only [sX, simprocAttr, -List.reduceReplicate]
  refine rF c42_rrrrrlrbrt c42_rrrrrlrbre rfl rfl ?_
  refine rS c42_rrrrrlrbrel c42_rrrrrlrbrer rfl ?_
  refine run_region rfl ?_
  simp only [sX, simprocAttr, -List.reduceReplicate]
  refine rF c42_rrrrrlrbrert c42_rrrrrlrbrere rfl rfl ?_
  refine rS c42_rrrrrlrbrerel c42_rrrrrlrbrerer rfl ?_
  refine run_region rfl ?_
  simp only [sX, simprocAttr, -List.reduceReplicate]
  refine rT c42_rrrrrlrbrerert c42_rrrrrlrbrerere rfl rfl ?_
  refine rS c42_rrrrrlrbrerertl c42_rrrrrlrbrerertr rfl ?_
  refine run_draw rfl c42_rrrrrlrbrerertl_ok c42_rrrrrlrbrerertl_dr ?_
  simp only [sX, simprocAttr, -List.reduceReplicate, hrb]
  refine call_of (hB _) ?_
  rintro v H1 ⟨rfl, hl1, hk1⟩
  rw [List.length_set] at hl1 hk1
  have hlt1 : rb < H1.length := by omega
  have hr1 : isRd H1 rb s (a + 1) op := by unfold isRd; rw [hk1 rb hrb]; exact isRd.set hrb
  have hr1' := hr1
  unfold isRd rdC at hr1'
  unfold setV
  simp only [sX, simprocAttr, -List.reduceReplicate]
  refine rS c42_rrrrrlrbrerertrl c42_rrrrrlrbrerertrr rfl ?_
  refine rS c42_rrrrrlrbrerertrll c42_rrrrrlrbrerertrlr rfl ?_
  refine run_region rfl ?_
  simp only [sX, simprocAttr, -List.reduceReplicate]
  refine rF c42_rrrrrlrbrerertrlrt c42_rrrrrlrbrerertrlre rfl rfl ?_
  refine run_skip rfl ?_
  simp only [sP]
  refine rS c42_rrrrrlrbrerertrrl c42_rrrrrlrbrerertrrr rfl ?_
  refine run_region rfl ?_
  simp only [sX, simprocAttr, -List.reduceReplicate, hr1', hlim]
  refine rS c42_rrrrrlrbrerertrrrl c42_rrrrrlrbrerertrrrr rfl ?_
  refine run_region rfl ?_
  simp only [sX, simprocAttr, -List.reduceReplicate]
  refine call_of (leaf_ok _ _ _ _ _ _ _) ?_
  rintro v H2 ⟨rfl, h2⟩
  subst h2
  unfold pcC
  simp only [sX, simprocAttr, -List.reduceReplicate]
  refine run_ret rfl ?_
  (simp only [sP]; refine ⟨_, (by rw [resultsA_eq Try.results42]; simp only [sR, List.mapM_cons, List.mapM_nil, if_true, Nat.reduceAdd]; rfl), ?_⟩)
  refine ⟨by rw [List.length_set]; omega, fun b hb hn => by rw [getO_set_ne hn, hk1 b hb, getO_set_ne hn], isRd.set hlt1, none, 0, rfl, IsRe.nil 1 t⟩
end Go.Proofs.Ytmgofjgfmcmceaa
end
section
namespace Go.Proofs.Ytmgofjgfmcmceaa
open Go.RowKit
set_option maxRecDepth 4000
set_option maxHeartbeats 1000000

/-- Trees that are right. -/
inductive Ok : Tr → Prop where
  | empty : Ok (.node 0 S4.z [])
  | set (s : S4) : Ok (.node 1 s [])
  | cat {a b : Tr} (ha : Ok a) (hb : Ok b) : Ok (.node 2 S4.z [a, b])
  | alt {a b : Tr} (ha : Ok a) (hb : Ok b) : Ok (.node 3 S4.z [a, b])
  | star {a : Tr} (ha : Ok a) : Ok (.node 4 S4.z [a])
  | plus {a : Tr} (ha : Ok a) : Ok (.node 5 S4.z [a])
  | opt {a : Tr} (ha : Ok a) : Ok (.node 6 S4.z [a])
  | first : Ok (.node 7 S4.z [])
  | last : Ok (.node 8 S4.z [])

/-- The bytes of a set. -/
def S4.bytes (s : S4) : List Nat := (List.range 256).filter s.has
/-- A set's text. -/
def setT (s : S4) : List UInt8 :=
  if s = S4.full then [46] else if s = S4.z then 91 :: 94 :: (octL 0 ++ 45 :: (octL 255 ++ [93])) else 91 :: (s.bytes.flatMap octL ++ [93])
mutual
/-- A tree's text. -/
def Tr.txt : Tr → List UInt8
  | .node k s l => if k = 0 then [40, 46, 63, 41, 123, 48, 125] else if k = 1 then setT s else if k = 7 then [94] else if k = 8 then [36] else txtL k l
def txtL (k : Int) : List Tr → List UInt8
  | [a] => 40 :: (a.txt ++ [41, if k = 4 then 42 else if k = 5 then 43 else 63])
  | [a, b] => if k = 2 then 40 :: (a.txt ++ 41 :: 40 :: (b.txt ++ [41])) else 40 :: 40 :: (a.txt ++ 41 :: 124 :: 40 :: (b.txt ++ [41, 41]))
  | _ => []
end
mutual
/-- How deep its text's brackets nest. -/
def Tr.nest : Tr → Int
  | .node k _ l => if k = 0 then 1 else nestL k l
def nestL (k : Int) : List Tr → Int
  | [a] => a.nest + 1
  | [a, b] => max a.nest b.nest + (if k = 2 then 1 else 2)
  | _ => 0
end

theorem stops_pieces {r : List UInt8} (h : stops r) : r = [] ∨ r.isEmpty = false ∧ hd r 124 = false ∧ hd r 41 = true ∨ r.isEmpty = false ∧ hd r 124 = true := by
  rcases h with h | h
  · exact .inl h
  · right; left
    refine ⟨?_, stops_hd (.inr h) (by decide), h⟩
    cases r with
    | nil => cases h
    | cons c r => rfl
theorem stops_pieces2 {r : List UInt8} (h : stops r) : r = [] ∨ r.isEmpty = false ∧ hd r 124 = false ∧ hd r 41 = true := by
  rcases stops_pieces h with h | h | h
  · exact .inl h
  · exact .inr h
  · rw [stops_hd ‹stops r› (by decide)] at h; cases h.2
theorem stops_quiet {r : List UInt8} (h : stops r) : quiet r := by
  rcases h with h | h
  · exact .inl h
  · cases r with
    | nil => exact .inl rfl
    | cons c r =>
      simp only [hd, decide_eq_true_eq] at h
      refine .inr ⟨c, r, rfl, ?_, ?_, ?_, ?_⟩ <;> simp only [decide_eq_false_iff_not] <;> omega
theorem quiet_cons {c : UInt8} {r : List UInt8} (h : c = 40 ∨ c = 41 ∨ c = 124) : quiet (c :: r) := by
  refine .inr ⟨c, r, rfl, ?_⟩
  rcases h with rfl | rfl | rfl <;> decide

/-- Its text is read as this tree. -/
def PA (T : Tr) : Prop := ∀ (lim : Nat) (H : Hp) (rb : Nat) (s : ByteArray) (a : Nat) (op : Int) (r : List UInt8), lim ≤ rb → isRd H rb s a op → tl s a = T.txt ++ r → stops r → 0 ≤ op → op + T.nest ≤ 10 → a + T.txt.length + 20 < 9223372036854775808 →
  CallEx X lim 22 [.pointer (some ⟨rb, 0, none⟩)] H (Got H rb s (a + T.txt.length) op T)

section
variable {lim : Nat} {H : Hp} {rb : Nat} {s : ByteArray} {a : Nat} {op : Int}
/-- In brackets. -/
theorem grp {A : Tr} (ih : PA A) {r : List UInt8} (hlim : lim ≤ rb) (hr : isRd H rb s a op) (hw : tl s a = 40 :: (A.txt ++ 41 :: r)) (h0 : 0 ≤ op) (hop : op + A.nest + 1 ≤ 10) (hn : 0 ≤ A.nest) (hsz : a + A.txt.length + 21 < 9223372036854775808) :
    CallEx X lim 42 [.pointer (some ⟨rb, 0, none⟩)] H (Got H rb s (a + A.txt.length + 2) op A) ∧ tl s (a + A.txt.length + 2) = r := by
  have h1 := (tl_cons hw).2.2
  have h2 := tl_app h1
  have h3 := (tl_cons h2).2.2
  have e : a + 1 + A.txt.length + 1 = a + A.txt.length + 2 := by omega
  rw [e] at h3
  refine ⟨?_, h3⟩
  rw [← e]
  exact atom_group lim H rb s a (a + 1 + A.txt.length) op A r _ hlim hr hw (fun H hr => ih lim H rb s (a + 1) (op + 1) (41 :: r) hlim hr h1 (.inr rfl) (by omega) (by omega) (by omega)) h2 (by omega) (by omega) h0 (by omega)
/-- A row of one piece is the whole. -/
theorem whole {T : Tr} {r : List UInt8} {e : Nat} (h : CallEx X lim 39 [.pointer (some ⟨rb, 0, none⟩)] H (Got H rb s e op T)) (hw : tl s e = r) (hs : stops r) : CallEx X lim 22 [.pointer (some ⟨rb, 0, none⟩)] H (Got H rb s e op T) :=
  alt_1 lim H rb s e op T r (pieces_1 lim H rb s e op T r h hw (stops_pieces hs)) hw (stops_hd hs (by decide))
end
mutual
theorem Tr.nest_nonneg : ∀ T : Tr, 0 ≤ T.nest
  | .node k s l => by
    have := nestL_nonneg k l
    unfold Tr.nest; split <;> omega
theorem nestL_nonneg (k : Int) : ∀ l : List Tr, 0 ≤ nestL k l
  | [] => by simp [nestL]
  | [a] => by have := a.nest_nonneg; simp only [nestL]; omega
  | [a, b] => by have := a.nest_nonneg; have := b.nest_nonneg; simp only [nestL]; split <;> omega
  | _ :: _ :: _ :: _ => by simp [nestL]
end

theorem txt_cat (a b : Tr) : (Tr.node 2 S4.z [a, b]).txt = 40 :: (a.txt ++ 41 :: 40 :: (b.txt ++ [41])) := by simp [Tr.txt, txtL]
theorem txt_alt (a b : Tr) : (Tr.node 3 S4.z [a, b]).txt = 40 :: 40 :: (a.txt ++ 41 :: 124 :: 40 :: (b.txt ++ [41, 41])) := by simp [Tr.txt, txtL]
theorem txt_star (a : Tr) : (Tr.node 4 S4.z [a]).txt = 40 :: (a.txt ++ [41, 42]) := by simp [Tr.txt, txtL]
theorem txt_plus (a : Tr) : (Tr.node 5 S4.z [a]).txt = 40 :: (a.txt ++ [41, 43]) := by simp [Tr.txt, txtL]
theorem txt_opt (a : Tr) : (Tr.node 6 S4.z [a]).txt = 40 :: (a.txt ++ [41, 63]) := by simp [Tr.txt, txtL]
theorem nest_2 (k : Int) (h : k ≠ 0) (a b : Tr) : (Tr.node k S4.z [a, b]).nest = max a.nest b.nest + (if k = 2 then 1 else 2) := by simp [Tr.nest, nestL, h]
theorem nest_1 (k : Int) (h : k ≠ 0) (a : Tr) : (Tr.node k S4.z [a]).nest = a.nest + 1 := by simp [Tr.nest, nestL, h]

theorem pa_sign {k : Int} {c : UInt8} {A : Tr} (ih : PA A) (hk : k ≠ 0) (ht : (Tr.node k S4.z [A]).txt = 40 :: (A.txt ++ [41, c]))
    (hp : ∀ (lim : Nat) (H : Hp) (rb : Nat) (s : ByteArray) (a0 a1 : Nat) (op : Int) (w : List UInt8), lim ≤ rb → isRd H rb s a0 op → CallEx X lim 42 [.pointer (some ⟨rb, 0, none⟩)] H (Got H rb s a1 op A) → tl s a1 = c :: w → quiet w → a1 + 1 < 9223372036854775808 →
      CallEx X lim 39 [.pointer (some ⟨rb, 0, none⟩)] H (Got H rb s (a1 + 1) op (.node k S4.z [A]))) : PA (.node k S4.z [A]) := by
  intro lim H rb s a op r hlim hr hw hs h0 hop hsz
  have hn := A.nest_nonneg
  rw [nest_1 k hk] at hop
  have hl : (Tr.node k S4.z [A]).txt.length = A.txt.length + 3 := by rw [ht]; simp
  rw [hl] at hsz ⊢
  have hw' : tl s a = 40 :: (A.txt ++ 41 :: (c :: r)) := by rw [hw, ht]; simp
  obtain ⟨h1, h2⟩ := grp ih hlim hr hw' h0 (by omega) hn (by omega)
  have h3 := hp lim H rb s a _ op r hlim hr h1 h2 (stops_quiet hs) (by omega)
  have h4 := (tl_cons h2).2.2
  have e : a + (A.txt.length + 3) = a + A.txt.length + 2 + 1 := by omega
  rw [e]
  exact whole h3 h4 hs

theorem pa_cat {A B : Tr} (ia : PA A) (ib : PA B) (d1 : A.dp + 1 ≤ 40) (d2 : B.dp ≤ 40) (d3 : A.lv + B.lv ≤ 400) : PA (.node 2 S4.z [A, B]) := by
  intro lim H rb s a op r hlim hr hw hs h0 hop hsz
  have hna := A.nest_nonneg
  have hnb := B.nest_nonneg
  rw [nest_2 2 (by decide)] at hop
  simp only [if_true] at hop
  have hl : (Tr.node 2 S4.z [A, B]).txt.length = A.txt.length + B.txt.length + 4 := by rw [txt_cat]; simp; omega
  rw [hl] at hsz ⊢
  have hw' : tl s a = 40 :: (A.txt ++ 41 :: (40 :: (B.txt ++ 41 :: r))) := by rw [hw, txt_cat]; simp
  obtain ⟨h1, h2⟩ := grp (H := H) ia hlim hr hw' h0 (by omega) hna (by omega)
  have h3 := piece_0 lim H rb s _ op A _ h1 h2 (quiet_cons (.inl rfl))
  have h4 : ∀ H, isRd H rb s (a + A.txt.length + 2) op → CallEx X lim 39 [.pointer (some ⟨rb, 0, none⟩)] H (Got H rb s (a + A.txt.length + 2 + B.txt.length + 2) op B) := fun H hr => by
    obtain ⟨h5, h6⟩ := grp (H := H) ib hlim hr h2 h0 (by omega) hnb (by omega)
    exact piece_0 lim H rb s _ op B _ h5 h6 (stops_quiet hs)
  have h6 : tl s (a + A.txt.length + 2 + B.txt.length + 2) = r := by
    have h7 := tl_app (tl_cons h2).2.2
    have h8 := (tl_cons h7).2.2
    have e : a + A.txt.length + 2 + 1 + B.txt.length + 1 = a + A.txt.length + 2 + B.txt.length + 2 := by omega
    rw [e] at h8; exact h8
  have h9 := pieces_2 lim H rb s a _ _ op A B _ r hlim hr h3 h2 rfl rfl rfl h4 h6 (stops_pieces2 hs) d1 d2 d3
  have e : a + (A.txt.length + B.txt.length + 4) = a + A.txt.length + 2 + B.txt.length + 2 := by omega
  rw [e]
  exact alt_1 lim H rb s _ op _ r h9 h6 (stops_hd hs (by decide))

theorem pa_alt {A B : Tr} (ia : PA A) (ib : PA B) (d1 : A.dp + 1 ≤ 40) (d2 : B.dp ≤ 40) (d3 : A.lv + B.lv ≤ 400) : PA (.node 3 S4.z [A, B]) := by
  intro lim H rb s a op r hlim hr hw hs h0 hop hsz
  have hna := A.nest_nonneg
  have hnb := B.nest_nonneg
  rw [nest_2 3 (by decide)] at hop
  simp only [show ((3 : Int) = 2) = False by decide, if_false] at hop
  have hl : (Tr.node 3 S4.z [A, B]).txt.length = A.txt.length + B.txt.length + 7 := by rw [txt_alt]; simp; omega
  rw [hl] at hsz ⊢
  have hw' : tl s a = 40 :: (40 :: (A.txt ++ 41 :: (124 :: (40 :: (B.txt ++ 41 :: (41 :: r)))))) := by rw [hw, txt_alt]; simp
  have hw1 := (tl_cons hw').2.2
  have hw2 : tl s (a + 1 + A.txt.length + 2) = 124 :: (40 :: (B.txt ++ 41 :: (41 :: r))) := by
    have := (tl_cons (tl_app (tl_cons hw1).2.2)).2.2
    have e : a + 1 + 1 + A.txt.length + 1 = a + 1 + A.txt.length + 2 := by omega
    rw [e] at this; exact this
  have hw3 := (tl_cons hw2).2.2
  have hw4 : tl s (a + 1 + A.txt.length + 2 + 1 + B.txt.length + 2) = 41 :: r := by
    have := (tl_cons (tl_app (tl_cons hw3).2.2)).2.2
    have e : a + 1 + A.txt.length + 2 + 1 + 1 + B.txt.length + 1 = a + 1 + A.txt.length + 2 + 1 + B.txt.length + 2 := by omega
    rw [e] at this; exact this
  have h1 : ∀ H, isRd H rb s (a + 1) (op + 1) → CallEx X lim 22 [.pointer (some ⟨rb, 0, none⟩)] H (Got H rb s (a + 1 + A.txt.length + 2 + 1 + B.txt.length + 2) (op + 1) (.node 3 S4.z [A, B])) := fun H hr => by
    obtain ⟨h1, _⟩ := grp (H := H) ia hlim hr hw1 (by omega) (by omega) hna (by omega)
    have h3 := piece_0 lim H rb s _ _ A _ h1 hw2 (quiet_cons (.inr (.inr rfl)))
    have h4 := pieces_1 lim H rb s _ _ A _ h3 hw2 (.inr (.inr ⟨rfl, rfl⟩))
    refine alt_2 lim H rb s (a + 1) _ _ (op + 1) A B _ (41 :: r) hlim hr h4 hw2 (by omega) (fun H hr => ?_) hw4 rfl d1 d2 d3
    obtain ⟨h5, _⟩ := grp (H := H) ib hlim hr hw3 (by omega) (by omega) hnb (by omega)
    have h6 := piece_0 lim H rb s _ _ B _ h5 hw4 (quiet_cons (.inr (.inl rfl)))
    exact pieces_1 lim H rb s _ _ B _ h6 hw4 (.inr (.inl ⟨rfl, rfl, rfl⟩))
  have h2 := atom_group lim H rb s a _ op _ r _ hlim hr hw' h1 hw4 (by omega) (by omega) h0 (by omega)
  have h5 := (tl_cons hw4).2.2
  have e : a + (A.txt.length + B.txt.length + 7) = a + 1 + A.txt.length + 2 + 1 + B.txt.length + 2 + 1 := by omega
  rw [e]
  exact whole (piece_0 lim H rb s _ op _ _ h2 h5 (stops_quiet hs)) h5 hs

theorem pa_empty : PA (.node 0 S4.z []) := by
  intro lim H rb s a op r hlim hr hw hs h0 hop hsz
  have hop' : op + 1 ≤ 10 := by simpa [Tr.nest] using hop
  have ht : (Tr.node 0 S4.z []).txt = [40, 46, 63, 41, 123, 48, 125] := by simp [Tr.txt]
  rw [ht] at hw hsz ⊢
  simp only [List.cons_append, List.nil_append, List.length_cons, List.length_nil] at hw hsz ⊢
  have w1 := (tl_cons hw).2.2
  have w2 := (tl_cons w1).2.2
  have w3 := (tl_cons w2).2.2
  have w4 := (tl_cons w3).2.2
  have w7 := (tl_cons (tl_cons (tl_cons w4).2.2).2.2).2.2
  have h1 : ∀ H, isRd H rb s (a + 1) (op + 1) → CallEx X lim 22 [.pointer (some ⟨rb, 0, none⟩)] H (Got H rb s (a + 1 + 1 + 1) (op + 1) (.node 6 S4.z [.node 1 S4.full []])) := fun H hr => by
    have h2 := atom_dot lim H rb s (a + 1) (op + 1) _ hlim hr w1 (by omega)
    have h3 := piece_3 lim H rb s (a + 1) (a + 1 + 1) (op + 1) _ _ hlim hr h2 w2 (quiet_cons (.inr (.inl rfl))) (by omega) (by simp [Tr.dp, dpL]) (by simp [Tr.lv, lvL])
    exact whole h3 w3 (.inr rfl)
  have h2 := atom_group lim H rb s a _ op _ _ _ hlim hr hw h1 w3 (by omega) (by omega) h0 hop'
  have h3 := piece_t lim H rb s a _ op _ r hlim hr h2 w4 (stops_quiet hs) (by omega)
  exact whole h3 w7 hs
theorem pa_first : PA (.node 7 S4.z []) := by
  intro lim H rb s a op r hlim hr hw hs h0 hop hsz
  have ht : (Tr.node 7 S4.z []).txt = [94] := by simp [Tr.txt]
  rw [ht] at hw hsz ⊢
  have w1 := (tl_cons hw).2.2
  exact whole (piece_0 lim H rb s _ op _ _ (atom_first lim H rb s a op _ hlim hr hw (by omega)) w1 (stops_quiet hs)) w1 hs
theorem pa_last : PA (.node 8 S4.z []) := by
  intro lim H rb s a op r hlim hr hw hs h0 hop hsz
  have ht : (Tr.node 8 S4.z []).txt = [36] := by simp [Tr.txt]
  rw [ht] at hw hsz ⊢
  have w1 := (tl_cons hw).2.2
  exact whole (piece_0 lim H rb s _ op _ _ (atom_last lim H rb s a op _ hlim hr hw (by omega)) w1 (stops_quiet hs)) w1 hs
theorem pa_set (t : S4) (ht0 : t.bytes = [] → t = S4.z) (ht1 : putAll S4.z t.bytes = t) : PA (.node 1 t []) := by
  intro lim H rb s a op r hlim hr hw hs h0 hop hsz
  have ht : (Tr.node 1 t []).txt = setT t := by simp [Tr.txt]
  rw [ht] at hw hsz ⊢
  unfold setT at hw hsz ⊢
  by_cases hf : t = S4.full
  · rw [if_pos hf] at hw hsz ⊢
    subst hf
    have w1 := (tl_cons hw).2.2
    exact whole (piece_0 lim H rb s _ op _ _ (atom_dot lim H rb s a op _ hlim hr hw (by omega)) w1 (stops_quiet hs)) w1 hs
  · rw [if_neg hf] at hw hsz ⊢
    by_cases hz : t = S4.z
    · rw [if_pos hz] at hw hsz ⊢
      subst hz
      have hw' : tl s a = 91 :: (94 :: (octL 0 ++ 45 :: (octL 255 ++ 93 :: r))) := by rw [hw]; simp
      have w1 := (tl_cons hw').2.2
      have hl : (91 :: 94 :: (octL 0 ++ 45 :: (octL 255 ++ [93]))).length = 12 := rfl
      rw [hl] at hsz ⊢
      have w2 : tl s (a + 12) = r := by
        have := tl_app (w := 91 :: 94 :: (octL 0 ++ 45 :: (octL 255 ++ [93]))) (r := r) hw
        exact this
      have h1 := atom_set lim H rb s a (a + 12) op S4.z _ hlim hr hw' (by omega) (fun H => bracket_all lim H s (a + 1) r w1 (by omega))
      exact whole (piece_0 lim H rb s _ op _ _ h1 w2 (stops_quiet hs)) w2 hs
    · rw [if_neg hz] at hw hsz ⊢
      cases hb : t.bytes with
      | nil => exact absurd (ht0 hb) hz
      | cons x l =>
        rw [hb] at hw hsz ht1
        have hw' : tl s a = 91 :: ((x :: l).flatMap octL ++ 93 :: r) := by rw [hw]; simp
        have w1 := (tl_cons hw').2.2
        have hfl : ∀ l : List Nat, (l.flatMap octL).length = 4 * l.length := by
          intro l
          induction l with
          | nil => rfl
          | cons x l ih => rw [List.flatMap_cons, List.length_append, ih, List.length_cons]; simp [octL]; omega
        have hl : (91 :: ((x :: l).flatMap octL ++ [93])).length = 4 * (x :: l).length + 2 := by
          rw [List.length_cons, List.length_append, hfl]; simp
        rw [hl] at hsz ⊢
        have w2 : tl s (a + (4 * (x :: l).length + 2)) = r := by
          have := tl_app (w := 91 :: ((x :: l).flatMap octL ++ [93])) (r := r) hw
          rw [hl] at this; exact this
        have hx : ∀ y, y ∈ x :: l → y < 256 := by
          intro y hy
          rw [← hb] at hy
          have := List.mem_filter.mp hy
          simpa using this.1
        have h1 := atom_set lim H rb s a (a + 1 + 4 * (x :: l).length + 1) op (putAll S4.z (x :: l)) _ hlim hr hw' (by omega) (fun H => bracket_l lim H s (a + 1) x l r hx w1 (by omega))
        rw [ht1, show a + 1 + 4 * (x :: l).length + 1 = a + (4 * (x :: l).length + 2) by omega] at h1
        exact whole (piece_0 lim H rb s _ op _ _ h1 w2 (stops_quiet hs)) w2 hs
end Go.Proofs.Ytmgofjgfmcmceaa
end
section
namespace Go.Proofs.Ytmgofjgfmcmceaa
open Go.RowKit
set_option maxRecDepth 4000

mutual
def Tr.ht : Tr → Nat
  | .node _ _ l => htL l + 1
def htL : List Tr → Nat
  | [] => 0
  | a :: l => max a.ht (htL l)
end
mutual
/-- May it be? -/
def Tr.shp : Tr → Bool
  | .node k s l => decide (kidsN k = (l.length : Int)) && (decide (k = 1) || decide (s = S4.z)) && shpL l
def shpL : List Tr → Bool
  | [] => true
  | a :: l => a.shp && shpL l
end
theorem ok_of_shp : ∀ (d : Nat) (T : Tr), T.ht ≤ d → T.shp = true → Ok T := by
  intro d
  induction d with
  | zero =>
    intro T h _
    cases T with
    | node k s l => simp [Tr.ht] at h
  | succ d ih =>
    intro T h hs
    cases T with
    | node k s l =>
      simp only [Tr.ht] at h
      simp only [Tr.shp, Bool.and_eq_true, decide_eq_true_eq, Bool.or_eq_true] at hs
      obtain ⟨⟨h1, h2⟩, h3⟩ := hs
      match l, h, h1, h3 with
      | [], h, h1, h3 =>
        have : k = 0 ∨ k = 1 ∨ k = 7 ∨ k = 8 := by
          unfold kidsN at h1
          split at h1
          · assumption
          · split at h1
            · simp at h1
            · split at h1 <;> simp at h1
        rcases this with rfl | rfl | rfl | rfl
        · rcases h2 with h2 | h2
          · simp at h2
          · subst h2; exact .empty
        · exact .set s
        · rcases h2 with h2 | h2
          · simp at h2
          · subst h2; exact .first
        · rcases h2 with h2 | h2
          · simp at h2
          · subst h2; exact .last
      | [a], h, h1, h3 =>
        have : k = 4 ∨ k = 5 ∨ k = 6 := by
          unfold kidsN at h1
          split at h1
          · simp at h1
          · split at h1
            · simp at h1
            · split at h1
              · assumption
              · simp at h1
        simp only [shpL, Bool.and_true] at h3
        have ha := ih a (by simp only [htL] at h; omega) h3
        rcases this with rfl | rfl | rfl
        · rcases h2 with h2 | h2
          · simp at h2
          · subst h2; exact .star ha
        · rcases h2 with h2 | h2
          · simp at h2
          · subst h2; exact .plus ha
        · rcases h2 with h2 | h2
          · simp at h2
          · subst h2; exact .opt ha
      | [a, b], h, h1, h3 =>
        have : k = 2 ∨ k = 3 := by
          unfold kidsN at h1
          split at h1
          · simp at h1
          · split at h1
            · assumption
            · split at h1 <;> simp at h1
        simp only [shpL, Bool.and_true, Bool.and_eq_true] at h3
        simp only [htL] at h
        have ha := ih a (by omega) h3.1
        have hb := ih b (by omega) h3.2
        rcases this with rfl | rfl
        · rcases h2 with h2 | h2
          · simp at h2
          · subst h2; exact .cat ha hb
        · rcases h2 with h2 | h2
          · simp at h2
          · subst h2; exact .alt ha hb
      | a :: b :: c :: l, h, h1, h3 =>
        exfalso
        simp only [List.length_cons] at h1
        unfold kidsN at h1
        split at h1
        · omega
        · split at h1
          · omega
          · split at h1 <;> omega
theorem shp_of_ok {T : Tr} (h : Ok T) : T.shp = true := by
  induction h with
  | empty => simp [Tr.shp, shpL, kidsN]
  | set s => simp [Tr.shp, shpL, kidsN]
  | cat _ _ ha hb => simp [Tr.shp, shpL, kidsN, ha, hb]
  | alt _ _ ha hb => simp [Tr.shp, shpL, kidsN, ha, hb]
  | star _ ha => simp [Tr.shp, shpL, kidsN, ha]
  | plus _ ha => simp [Tr.shp, shpL, kidsN, ha]
  | opt _ ha => simp [Tr.shp, shpL, kidsN, ha]
  | first => simp [Tr.shp, shpL, kidsN]
  | last => simp [Tr.shp, shpL, kidsN]

/-- A tree as a value. -/
def reV (k : Int) (s : S4) (p : Option Addr) (n : Nat) : Value := .agg #[.int .i64 k, .int .u64 s.a.toNat, .int .u64 s.b.toNat, .int .u64 s.c.toNat, .int .u64 s.d.toNat, .slice p n n]
theorem IsRe.form {H : Hp} {S : Nat → Prop} {T : Tr} {cs : List Value} (h : IsRe H S T cs) : ∃ p, cs = reC T.k T.s p T.kids.length := by
  cases h with
  | nil k s => exact ⟨none, rfl⟩
  | cons k s kids b wr css hn hS hl hb hk => exact ⟨_, rfl⟩
theorem IsRe.inv1 {H : Hp} {S : Nat → Prop} {k : Int} {s : S4} {a : Tr} {p : Option Addr} {n : Nat} (h : IsRe H S (.node k s [a]) (reC k s p n)) :
    n = 1 ∧ ∃ b wr p1, p = some ⟨b, 0, none⟩ ∧ S b ∧ getO H b = some ⟨wr, 6, reC a.k a.s p1 a.kids.length⟩ ∧ IsRe H S a (reC a.k a.s p1 a.kids.length) := by
  generalize hc : reC k s p n = cs at h
  generalize hT : Tr.node k s [a] = T at h
  cases h with
  | nil k' s' => cases hT
  | cons k' s' kids b wr css hn hS hl hb hk =>
    cases hT
    simp only [reC, List.cons.injEq, and_true, true_and, Value.slice.injEq] at hc
    obtain ⟨hp, hn1, _⟩ := hc
    match css, hl with
    | [c], hl =>
      have h0 := hk 0 (by simp) (by simp)
      simp only [List.getElem_cons_zero] at h0
      obtain ⟨p1, h1⟩ := h0.form
      subst h1
      refine ⟨hn1, b, wr, p1, hp, hS, ?_, h0⟩
      rw [hb]; simp
theorem IsRe.inv2 {H : Hp} {S : Nat → Prop} {k : Int} {s : S4} {a b : Tr} {p : Option Addr} {n : Nat} (h : IsRe H S (.node k s [a, b]) (reC k s p n)) :
    n = 2 ∧ ∃ bl wr p1 p2, p = some ⟨bl, 0, none⟩ ∧ S bl ∧ getO H bl = some ⟨wr, 6, reC a.k a.s p1 a.kids.length ++ reC b.k b.s p2 b.kids.length⟩ ∧ IsRe H S a (reC a.k a.s p1 a.kids.length) ∧ IsRe H S b (reC b.k b.s p2 b.kids.length) := by
  generalize hc : reC k s p n = cs at h
  generalize hT : Tr.node k s [a, b] = T at h
  cases h with
  | nil k' s' => cases hT
  | cons k' s' kids bl wr css hn hS hl hb hk =>
    cases hT
    simp only [reC, List.cons.injEq, and_true, true_and, Value.slice.injEq] at hc
    obtain ⟨hp, hn1, _⟩ := hc
    match css, hl with
    | [c, c'], hl =>
      have h0 := hk 0 (by simp) (by simp)
      have h0' := hk 1 (by simp) (by simp)
      simp only [List.getElem_cons_zero, List.getElem_cons_succ] at h0 h0'
      obtain ⟨p1, h1⟩ := h0.form
      obtain ⟨p2, h2⟩ := h0'.form
      subst h1; subst h2
      refine ⟨hn1, bl, wr, p1, p2, hp, hS, ?_, h0, h0'⟩
      rw [hb]; simp
theorem IsRe.inv0 {H : Hp} {S : Nat → Prop} {k : Int} {s : S4} {p : Option Addr} {n : Nat} (h : IsRe H S (.node k s []) (reC k s p n)) : n = 0 ∧ p = none := by
  generalize hc : reC k s p n = cs at h
  generalize hT : Tr.node k s [] = T at h
  cases h with
  | nil k' s' =>
    cases hT
    simp only [reC, List.cons.injEq, and_true, true_and, Value.slice.injEq] at hc
    exact ⟨hc.2.1, hc.1⟩
  | cons k' s' kids bl wr css hn hS hl hb hk =>
    cases hT
    exact absurd rfl hn
theorem IsRe.len_eq {H : Hp} {S : Nat → Prop} {T : Tr} {p : Option Addr} {n : Nat} (h : IsRe H S T (reC T.k T.s p n)) : n = T.kids.length := by
  obtain ⟨p', h'⟩ := h.form
  simp only [reC, List.cons.injEq, and_true, true_and, Value.slice.injEq] at h'
  exact h'.2.1

theorem kidsE_ok (lim : Nat) (H : Hp) (k : Int) : CallEx X lim 35 [.int .i64 k] H fun v H1 => v = .int .i64 (kidsN k) ∧ H1 = H := by
  by_cases h : 0 ≤ k ∧ k ≤ 8
  · exact call_eq (kidsE_in lim H k h.1 h.2) ⟨rfl, rfl⟩
  · have : kidsN k = -1 := by
      unfold kidsN
      rw [if_neg (by omega), if_neg (by omega), if_neg (by omega)]
    rw [this]; exact kidsE_out lim H k (by omega)
theorem kidsR_ok (lim : Nat) (H : Hp) (k : Int) : CallEx X lim 28 [.int .i64 k] H fun v H1 => v = .int .i64 (kidsN k) ∧ H1 = H := by
  by_cases h : 0 ≤ k ∧ k ≤ 8
  · exact call_eq (kidsR_in lim H k h.1 h.2) ⟨rfl, rfl⟩
  · have : kidsN k = -1 := by
      unfold kidsN
      rw [if_neg (by omega), if_neg (by omega), if_neg (by omega)]
    rw [this]; exact kidsR_out lim H k (by omega)
theorem set_neq' (x y : Operand) (s : S4) : binR X.P .neq 28 x y (.agg #[.int .u64 s.a.toNat, .int .u64 s.b.toNat, .int .u64 s.c.toNat, .int .u64 s.d.toNat]) (.agg #[.int .u64 0, .int .u64 0, .int .u64 0, .int .u64 0]) = some (.bool (!decide (s = S4.z))) := by
  rw [set_neq]
  have h : ∀ x : BitVec 64, decide ((x.toNat : Int) = 0) = decide (x = 0#64) := by
    intro x
    apply decide_eq_decide.mpr
    constructor
    · intro h; apply BitVec.eq_of_toNat_eq; simp; omega
    · intro h; subst h; rfl
  rw [h, h, h, h]
  congr 3
  obtain ⟨a, b, c, d⟩ := s
  simp only [S4.z, S4.mk.injEq]
  by_cases h1 : a = 0#64 <;> by_cases h2 : b = 0#64 <;> by_cases h3 : c = 0#64 <;> by_cases h4 : d = 0#64 <;> simp [h1, h2, h3, h4]
end Go.Proofs.Ytmgofjgfmcmceaa
end
