/- shaped of the program. -/
import Derived.Test.YtmgofjgfmcmceaaF7
section
namespace Go.Proofs.Ytmgofjgfmcmceaa
open Go.RowKit
set_option maxRecDepth 4000
set_option maxHeartbeats 2000000

/-- What shaped answers. -/
def shV (T : Tr) : Value := .tuple #[.int .i64 (bif T.shp then T.lv else 0), .bool T.shp]
theorem shE : ∀ (d : Nat) (T : Tr), T.ht ≤ d → ∀ (lim : Nat) (H : Hp) (S : Nat → Prop) (p : Option Addr) (n : Nat) (deep : Int), IsRe H S T (reC T.k T.s p n) → (d : Int) ≤ deep → deep ≤ 1000 → T.lv ≤ 400 →
    CallEx X lim 26 [reV T.k T.s p n, .int .i64 deep] H fun v H1 => v = shV T ∧ H1 = H := by
  intro d
  induction d with
  | zero =>
    intro T h
    cases T with
    | node k s l => simp [Tr.ht] at h
  | succ d ih =>
    intro T hT lim H S p n deep hI h0 h1 hlv
    have hd : decide (deep < 1) = false := by simp; omega
    have hd1 : IntKind.i64.wrap (deep - 1) = deep - 1 := IntWalk.i64_in _ (by omega)
    have hd2 : IntKind.i64.wrap (deep - 1 + 0) = deep - 1 := by rw [IntWalk.i64_in _ (by omega)]; omega
    have hd3 : IntKind.i64.wrap (deep - 1 + 1) = deep := by rw [IntWalk.i64_in _ (by omega)]; omega
    have hn := hI.len_eq
    cases T with
    | node k s l =>
      simp only [Tr.k, Tr.s, Tr.kids] at hI hn ⊢
      subst hn
      unfold reV
      by_cases hm : kidsN k = (l.length : Int)
      · have e1 : decide (kidsN k = (l.length : Int)) = true := by simp [hm]
        by_cases hb : k = 1 ∨ s = S4.z
        · match l, hT, hI, hlv, hm, e1 with
          | [], hT, hI, hlv, hm, e1 =>
            obtain ⟨_, rfl⟩ := hI.inv0
            have el : decide (((0 : Nat) : Int) = 0) = true := rfl
            have hv : shV (.node k s []) = .tuple #[.int .i64 1, .bool true] := by
              have : (Tr.node k s []).shp = true := by simp only [Tr.shp, shpL, e1, Bool.and_true, Bool.true_and, Bool.or_eq_true, decide_eq_true_eq]; exact hb
              unfold shV; rw [this]; rfl
            rw [hv]
            simp only [List.length_nil] at e1 ⊢
            have e1 : decide (kidsN k = 0) = true := e1
            rcases hb with hb | hb
            · have ek : decide (k = 1) = true := by simp [hb]
              (refine call_intro fun26 name26 body26 ?_; simp only [Try.ntmps26, List.map_cons, List.map_nil, List.length_cons, List.length_nil, Nat.zero_add, Nat.reduceAdd, Nat.reduceSub, List.replicate_succ, List.replicate_zero, List.cons_append, List.nil_append])
              refine rS c26_l c26_r rfl ?_
              refine run_region rfl ?_
              simp only [sX, simprocAttr, -List.reduceReplicate]
              refine rS c26_rl c26_rr rfl ?_
              refine rS c26_rll c26_rlr rfl ?_
              refine run_drawG rfl c26_rll_ok c26_rll_dr c26_rll_gs ?_
              simp only [sX, simprocAttr, -List.reduceReplicate, hd]
              refine call_of (kidsE_ok _ _ _) ?_
              rintro v H2 ⟨rfl, h2⟩
              subst h2
              simp only [sX, simprocAttr, -List.reduceReplicate, e1, ek]
              refine rF c26_rlrt c26_rlre rfl rfl ?_
              refine run_skip rfl ?_
              simp only [sP]
              refine rS c26_rrl c26_rrr rfl ?_
              refine rS c26_rrll c26_rrlr rfl ?_
              refine run_region rfl ?_
              simp only [sX, simprocAttr, -List.reduceReplicate]
              refine rT c26_rrlrt c26_rrlre rfl rfl ?_
              refine run_region rfl ?_
              simp only [sX, simprocAttr, -List.reduceReplicate]
              refine rS c26_rrrl c26_rrrr rfl ?_
              refine rS c26_rrrll c26_rrrlr rfl ?_
              refine run_region rfl ?_
              simp only [sX, simprocAttr, -List.reduceReplicate]
              refine run_block (b := c26_rrrlrb) rfl ?_
              (refine run_loopk (b := c26_rrrlrbo) rfl keep26_6 ?_; simp only [sC, Nat.reduceBEq, Nat.reduceAdd])
              refine rS c26_rrrlrbol c26_rrrlrbor rfl ?_
              refine run_region rfl ?_
              simp only [sX, simprocAttr, -List.reduceReplicate]
              refine rS c26_rrrlrborl c26_rrrlrborr rfl ?_
              refine rF c26_rrrlrborlt c26_rrrlrborle rfl rfl ?_
              refine run_exit rfl ?_
              simp only [sP, if_true]
              refine rS c26_rrrrl c26_rrrrr rfl ?_
              refine run_region rfl ?_
              simp only [sX, simprocAttr, -List.reduceReplicate]
              refine run_ret rfl ?_
              (simp only [sP]; refine ⟨_, (by rw [resultsA_eq Try.results26]; simp only [sR, List.mapM_cons, List.mapM_nil]; rfl), ?_⟩)
              exact ⟨rfl, trivial⟩
            · have es : decide (s = S4.z) = true := by simp [hb]
              by_cases hk : k = 1
              · have ek : decide (k = 1) = true := by simp [hk]
                (refine call_intro fun26 name26 body26 ?_; simp only [Try.ntmps26, List.map_cons, List.map_nil, List.length_cons, List.length_nil, Nat.zero_add, Nat.reduceAdd, Nat.reduceSub, List.replicate_succ, List.replicate_zero, List.cons_append, List.nil_append])
                refine rS c26_l c26_r rfl ?_
                refine run_region rfl ?_
                simp only [sX, simprocAttr, -List.reduceReplicate]
                refine rS c26_rl c26_rr rfl ?_
                refine rS c26_rll c26_rlr rfl ?_
                refine run_drawG rfl c26_rll_ok c26_rll_dr c26_rll_gs ?_
                simp only [sX, simprocAttr, -List.reduceReplicate, hd]
                refine call_of (kidsE_ok _ _ _) ?_
                rintro v H2 ⟨rfl, h2⟩
                subst h2
                simp only [sX, simprocAttr, -List.reduceReplicate, e1, ek]
                refine rF c26_rlrt c26_rlre rfl rfl ?_
                refine run_skip rfl ?_
                simp only [sP]
                refine rS c26_rrl c26_rrr rfl ?_
                refine rS c26_rrll c26_rrlr rfl ?_
                refine run_region rfl ?_
                simp only [sX, simprocAttr, -List.reduceReplicate]
                refine rT c26_rrlrt c26_rrlre rfl rfl ?_
                refine run_region rfl ?_
                simp only [sX, simprocAttr, -List.reduceReplicate]
                refine rS c26_rrrl c26_rrrr rfl ?_
                refine rS c26_rrrll c26_rrrlr rfl ?_
                refine run_region rfl ?_
                simp only [sX, simprocAttr, -List.reduceReplicate]
                refine run_block (b := c26_rrrlrb) rfl ?_
                (refine run_loopk (b := c26_rrrlrbo) rfl keep26_6 ?_; simp only [sC, Nat.reduceBEq, Nat.reduceAdd])
                refine rS c26_rrrlrbol c26_rrrlrbor rfl ?_
                refine run_region rfl ?_
                simp only [sX, simprocAttr, -List.reduceReplicate]
                refine rS c26_rrrlrborl c26_rrrlrborr rfl ?_
                refine rF c26_rrrlrborlt c26_rrrlrborle rfl rfl ?_
                refine run_exit rfl ?_
                simp only [sP, if_true]
                refine rS c26_rrrrl c26_rrrrr rfl ?_
                refine run_region rfl ?_
                simp only [sX, simprocAttr, -List.reduceReplicate]
                refine run_ret rfl ?_
                (simp only [sP]; refine ⟨_, (by rw [resultsA_eq Try.results26]; simp only [sR, List.mapM_cons, List.mapM_nil]; rfl), ?_⟩)
                exact ⟨rfl, trivial⟩
              · have ek : decide (k = 1) = false := by simp [hk]
                (refine call_intro fun26 name26 body26 ?_; simp only [Try.ntmps26, List.map_cons, List.map_nil, List.length_cons, List.length_nil, Nat.zero_add, Nat.reduceAdd, Nat.reduceSub, List.replicate_succ, List.replicate_zero, List.cons_append, List.nil_append])
                refine rS c26_l c26_r rfl ?_
                refine run_region rfl ?_
                simp only [sX, simprocAttr, -List.reduceReplicate]
                refine rS c26_rl c26_rr rfl ?_
                refine rS c26_rll c26_rlr rfl ?_
                refine run_drawG rfl c26_rll_ok c26_rll_dr c26_rll_gs ?_
                simp only [sX, simprocAttr, -List.reduceReplicate, hd]
                refine call_of (kidsE_ok _ _ _) ?_
                rintro v H2 ⟨rfl, h2⟩
                subst h2
                simp only [sX, simprocAttr, -List.reduceReplicate, e1, ek, es, set_neq']
                refine rF c26_rlrt c26_rlre rfl rfl ?_
                refine run_skip rfl ?_
                simp only [sP]
                refine rS c26_rrl c26_rrr rfl ?_
                refine rS c26_rrll c26_rrlr rfl ?_
                refine run_region rfl ?_
                simp only [sX, simprocAttr, -List.reduceReplicate]
                refine rT c26_rrlrt c26_rrlre rfl rfl ?_
                refine run_region rfl ?_
                simp only [sX, simprocAttr, -List.reduceReplicate]
                refine rS c26_rrrl c26_rrrr rfl ?_
                refine rS c26_rrrll c26_rrrlr rfl ?_
                refine run_region rfl ?_
                simp only [sX, simprocAttr, -List.reduceReplicate]
                refine run_block (b := c26_rrrlrb) rfl ?_
                (refine run_loopk (b := c26_rrrlrbo) rfl keep26_6 ?_; simp only [sC, Nat.reduceBEq, Nat.reduceAdd])
                refine rS c26_rrrlrbol c26_rrrlrbor rfl ?_
                refine run_region rfl ?_
                simp only [sX, simprocAttr, -List.reduceReplicate]
                refine rS c26_rrrlrborl c26_rrrlrborr rfl ?_
                refine rF c26_rrrlrborlt c26_rrrlrborle rfl rfl ?_
                refine run_exit rfl ?_
                simp only [sP, if_true]
                refine rS c26_rrrrl c26_rrrrr rfl ?_
                refine run_region rfl ?_
                simp only [sX, simprocAttr, -List.reduceReplicate]
                refine run_ret rfl ?_
                (simp only [sP]; refine ⟨_, (by rw [resultsA_eq Try.results26]; simp only [sR, List.mapM_cons, List.mapM_nil]; rfl), ?_⟩)
                exact ⟨rfl, trivial⟩
          | [a], hT, hI, hlv, hm, e1 =>
            obtain ⟨_, bl, wr, p1, rfl, _, ho, ha⟩ := hI.inv1
            have hk : k ≠ 1 := by rintro rfl; simp [kidsN] at hm
            have hs : s = S4.z := by rcases hb with h | h; exact absurd h hk; exact h
            have ek : decide (k = 1) = false := by simp [hk]
            have es : decide (s = S4.z) = true := by simp [hs]
            have hta : a.ht ≤ d := by simp only [Tr.ht, htL] at hT; omega
            have hla : a.lv ≤ 400 := by simpa [Tr.lv, lvL] using hlv
            have hp := a.lv_pos
            have hga : decide (400 < 0 + a.lv) = false := by simp; omega
            have hga' : decide (400 < a.lv) = false := by simp; omega
            have hwa : IntKind.i64.wrap (0 + a.lv) = a.lv := by rw [IntWalk.i64_in _ (by omega)]; omega
            have hwa' : IntKind.i64.wrap a.lv = a.lv := by rw [IntWalk.i64_in _ (by omega)]
            have hca := ih a hta lim H S p1 a.kids.length (deep - 1) ha (by omega) (by omega) hla
            simp only [List.length_cons, List.length_nil, Nat.zero_add] at e1 ⊢
            have e1 : decide (kidsN k = 1) = true := e1
            unfold reC at ho
            cases hsa : a.shp with
            | true =>
              have hv : shV (.node k s [a]) = .tuple #[.int .i64 a.lv, .bool true] := by
                have : (Tr.node k s [a]).shp = true := by simp [Tr.shp, shpL, hm, hb, hsa]
                unfold shV; rw [this]; simp [Tr.lv, lvL]
              have hva : shV a = .tuple #[.int .i64 a.lv, .bool true] := by unfold shV; rw [hsa]; rfl
              rw [hv]
              (refine call_intro fun26 name26 body26 ?_; simp only [Try.ntmps26, List.map_cons, List.map_nil, List.length_cons, List.length_nil, Nat.zero_add, Nat.reduceAdd, Nat.reduceSub, List.replicate_succ, List.replicate_zero, List.cons_append, List.nil_append])
              refine rS c26_l c26_r rfl ?_
              refine run_region rfl ?_
              simp only [sX, simprocAttr, -List.reduceReplicate]
              refine rS c26_rl c26_rr rfl ?_
              refine rS c26_rll c26_rlr rfl ?_
              refine run_drawG rfl c26_rll_ok c26_rll_dr c26_rll_gs ?_
              simp only [sX, simprocAttr, -List.reduceReplicate, hd]
              refine call_of (kidsE_ok _ _ _) ?_
              rintro v H2 ⟨rfl, h2⟩
              subst h2
              simp only [sX, simprocAttr, -List.reduceReplicate, e1, ek, es, set_neq']
              refine rF c26_rlrt c26_rlre rfl rfl ?_
              refine run_skip rfl ?_
              simp only [sP]
              refine rS c26_rrl c26_rrr rfl ?_
              refine rS c26_rrll c26_rrlr rfl ?_
              refine run_region rfl ?_
              simp only [sX, simprocAttr, -List.reduceReplicate]
              refine rF c26_rrlrt c26_rrlre rfl rfl ?_
              refine run_skip rfl ?_
              simp only [sP]
              refine rS c26_rrrl c26_rrrr rfl ?_
              refine rS c26_rrrll c26_rrrlr rfl ?_
              refine run_region rfl ?_
              simp only [sX, simprocAttr, -List.reduceReplicate]
              refine run_block (b := c26_rrrlrb) rfl ?_
              (refine run_loopk (b := c26_rrrlrbo) rfl keep26_6 ?_; simp only [sC, Nat.reduceBEq, Nat.reduceAdd])
              refine rS c26_rrrlrbol c26_rrrlrbor rfl ?_
              refine run_region rfl ?_
              simp only [sX, simprocAttr, -List.reduceReplicate]
              refine rS c26_rrrlrborl c26_rrrlrborr rfl ?_
              refine rT c26_rrrlrborlt c26_rrrlrborle rfl rfl ?_
              refine run_skip rfl ?_
              simp only [sP]
              refine rS c26_rrrlrborrl c26_rrrlrborrr rfl ?_
              refine run_block (b := c26_rrrlrborrlb) rfl ?_
              refine rS c26_rrrlrborrlbl c26_rrrlrborrlbr rfl ?_
              refine run_region rfl ?_
              simp only [sX, simprocAttr, -List.reduceReplicate, ho]
              refine rS c26_rrrlrborrlbrl c26_rrrlrborrlbrr rfl ?_
              refine run_region rfl ?_
              simp only [sX, simprocAttr, -List.reduceReplicate, hd1, hd2]
              refine call_of hca ?_
              rintro v H2 ⟨rfl, h2⟩
              subst h2
              rw [hva]
              simp only [sX, simprocAttr, -List.reduceReplicate]
              refine rS c26_rrrlrborrlbrrl c26_rrrlrborrlbrrr rfl ?_
              refine run_region rfl ?_
              simp only [sX, simprocAttr, -List.reduceReplicate, hwa]
              refine rS c26_rrrlrborrlbrrrl c26_rrrlrborrlbrrrr rfl ?_
              refine run_regionG rfl c26_rrrlrborrlbrrrl_gs ?_
              simp only [sX, simprocAttr, -List.reduceReplicate, hga']
              refine rF c26_rrrlrborrlbrrrrt c26_rrrlrborrlbrrrre rfl rfl ?_
              refine run_skip rfl ?_
              simp only [sP]
              refine run_region rfl ?_
              simp only [sX, simprocAttr, -List.reduceReplicate]
              (refine run_loopk (b := c26_rrrlrbo) rfl keep26_6 ?_; simp only [sC, Nat.reduceBEq, Nat.reduceAdd])
              refine rS c26_rrrlrbol c26_rrrlrbor rfl ?_
              refine run_region rfl ?_
              simp only [sX, simprocAttr, -List.reduceReplicate]
              refine rS c26_rrrlrborl c26_rrrlrborr rfl ?_
              refine rF c26_rrrlrborlt c26_rrrlrborle rfl rfl ?_
              refine run_exit rfl ?_
              simp only [sP, if_true]
              refine rS c26_rrrrl c26_rrrrr rfl ?_
              refine run_region rfl ?_
              simp only [sX, simprocAttr, -List.reduceReplicate]
              refine run_ret rfl ?_
              (simp only [sP]; refine ⟨_, (by rw [resultsA_eq Try.results26]; simp only [sR, List.mapM_cons, List.mapM_nil]; rfl), ?_⟩)
              exact ⟨rfl, trivial⟩
            | false =>
              have hv : shV (.node k s [a]) = .tuple #[.int .i64 0, .bool false] := by
                have : (Tr.node k s [a]).shp = false := by simp [Tr.shp, shpL, hsa]
                unfold shV; rw [this]; rfl
              have hva : shV a = .tuple #[.int .i64 0, .bool false] := by unfold shV; rw [hsa]; rfl
              rw [hv]
              (refine call_intro fun26 name26 body26 ?_; simp only [Try.ntmps26, List.map_cons, List.map_nil, List.length_cons, List.length_nil, Nat.zero_add, Nat.reduceAdd, Nat.reduceSub, List.replicate_succ, List.replicate_zero, List.cons_append, List.nil_append])
              refine rS c26_l c26_r rfl ?_
              refine run_region rfl ?_
              simp only [sX, simprocAttr, -List.reduceReplicate]
              refine rS c26_rl c26_rr rfl ?_
              refine rS c26_rll c26_rlr rfl ?_
              refine run_drawG rfl c26_rll_ok c26_rll_dr c26_rll_gs ?_
              simp only [sX, simprocAttr, -List.reduceReplicate, hd]
              refine call_of (kidsE_ok _ _ _) ?_
              rintro v H2 ⟨rfl, h2⟩
              subst h2
              simp only [sX, simprocAttr, -List.reduceReplicate, e1, ek, es, set_neq']
              refine rF c26_rlrt c26_rlre rfl rfl ?_
              refine run_skip rfl ?_
              simp only [sP]
              refine rS c26_rrl c26_rrr rfl ?_
              refine rS c26_rrll c26_rrlr rfl ?_
              refine run_region rfl ?_
              simp only [sX, simprocAttr, -List.reduceReplicate]
              refine rF c26_rrlrt c26_rrlre rfl rfl ?_
              refine run_skip rfl ?_
              simp only [sP]
              refine rS c26_rrrl c26_rrrr rfl ?_
              refine rS c26_rrrll c26_rrrlr rfl ?_
              refine run_region rfl ?_
              simp only [sX, simprocAttr, -List.reduceReplicate]
              refine run_block (b := c26_rrrlrb) rfl ?_
              (refine run_loopk (b := c26_rrrlrbo) rfl keep26_6 ?_; simp only [sC, Nat.reduceBEq, Nat.reduceAdd])
              refine rS c26_rrrlrbol c26_rrrlrbor rfl ?_
              refine run_region rfl ?_
              simp only [sX, simprocAttr, -List.reduceReplicate]
              refine rS c26_rrrlrborl c26_rrrlrborr rfl ?_
              refine rT c26_rrrlrborlt c26_rrrlrborle rfl rfl ?_
              refine run_skip rfl ?_
              simp only [sP]
              refine rS c26_rrrlrborrl c26_rrrlrborrr rfl ?_
              refine run_block (b := c26_rrrlrborrlb) rfl ?_
              refine rS c26_rrrlrborrlbl c26_rrrlrborrlbr rfl ?_
              refine run_region rfl ?_
              simp only [sX, simprocAttr, -List.reduceReplicate, ho]
              refine rS c26_rrrlrborrlbrl c26_rrrlrborrlbrr rfl ?_
              refine run_region rfl ?_
              simp only [sX, simprocAttr, -List.reduceReplicate, hd1, hd2]
              refine call_of hca ?_
              rintro v H2 ⟨rfl, h2⟩
              subst h2
              rw [hva]
              simp only [sX, simprocAttr, -List.reduceReplicate]
              refine rS c26_rrrlrborrlbrrl c26_rrrlrborrlbrrr rfl ?_
              refine run_region rfl ?_
              simp only [sX, simprocAttr, -List.reduceReplicate]
              refine rS c26_rrrlrborrlbrrrl c26_rrrlrborrlbrrrr rfl ?_
              refine run_regionG rfl c26_rrrlrborrlbrrrl_gs ?_
              simp only [sX, simprocAttr, -List.reduceReplicate]
              refine rT c26_rrrlrborrlbrrrrt c26_rrrlrborrlbrrrre rfl rfl ?_
              refine rS c26_rrrlrborrlbrrrrtl c26_rrrlrborrlbrrrrtr rfl ?_
              refine run_region rfl ?_
              simp only [sX, simprocAttr, -List.reduceReplicate]
              refine run_ret rfl ?_
              (simp only [sP]; refine ⟨_, (by rw [resultsA_eq Try.results26]; simp only [sR, List.mapM_cons, List.mapM_nil]; rfl), ?_⟩)
              exact ⟨rfl, trivial⟩
          | [a, b], hT, hI, hlv, hm, e1 =>
            obtain ⟨_, bl, wr, p1, p2, rfl, _, ho, ha, hb'⟩ := hI.inv2
            have hk : k ≠ 1 := by rintro rfl; simp [kidsN] at hm
            have hs : s = S4.z := by rcases hb with h | h; exact absurd h hk; exact h
            have ek : decide (k = 1) = false := by simp [hk]
            have es : decide (s = S4.z) = true := by simp [hs]
            have hta : a.ht ≤ d := by simp only [Tr.ht, htL] at hT; omega
            have htb : b.ht ≤ d := by simp only [Tr.ht, htL] at hT; omega
            have hp := a.lv_pos
            have hp' := b.lv_pos
            have hll : a.lv + b.lv ≤ 400 := by simpa [Tr.lv, lvL] using hlv
            have hga : decide (400 < 0 + a.lv) = false := by simp; omega
            have hga' : decide (400 < a.lv) = false := by simp; omega
            have hgb : decide (400 < a.lv + b.lv) = false := by simp; omega
            have hwa : IntKind.i64.wrap (0 + a.lv) = a.lv := by rw [IntWalk.i64_in _ (by omega)]; omega
            have hwa' : IntKind.i64.wrap a.lv = a.lv := by rw [IntWalk.i64_in _ (by omega)]
            have hwb : IntKind.i64.wrap (a.lv + b.lv) = a.lv + b.lv := by rw [IntWalk.i64_in _ (by omega)]
            have hca := ih a hta lim H S p1 a.kids.length (deep - 1) ha (by omega) (by omega) (by omega)
            have hcb := ih b htb lim H S p2 b.kids.length deep hb' (by omega) (by omega) (by omega)
            simp only [List.length_cons, List.length_nil, Nat.zero_add, Nat.reduceAdd] at e1 ⊢
            have e1 : decide (kidsN k = 2) = true := e1
            unfold reC at ho
            simp only [List.cons_append, List.nil_append] at ho
            cases hsa : a.shp with
            | true =>
              have hva : shV a = .tuple #[.int .i64 a.lv, .bool true] := by unfold shV; rw [hsa]; rfl
              cases hsb : b.shp with
              | true =>
                have hv : shV (.node k s [a, b]) = .tuple #[.int .i64 (a.lv + b.lv), .bool true] := by
                  have : (Tr.node k s [a, b]).shp = true := by simp [Tr.shp, shpL, hm, hb, hsa, hsb]
                  unfold shV; rw [this]; simp [Tr.lv, lvL]
                have hvb : shV b = .tuple #[.int .i64 b.lv, .bool true] := by unfold shV; rw [hsb]; rfl
                rw [hv]
                (refine call_intro fun26 name26 body26 ?_; simp only [Try.ntmps26, List.map_cons, List.map_nil, List.length_cons, List.length_nil, Nat.zero_add, Nat.reduceAdd, Nat.reduceSub, List.replicate_succ, List.replicate_zero, List.cons_append, List.nil_append])
                refine rS c26_l c26_r rfl ?_
                refine run_region rfl ?_
                simp only [sX, simprocAttr, -List.reduceReplicate]
                refine rS c26_rl c26_rr rfl ?_
                refine rS c26_rll c26_rlr rfl ?_
                refine run_drawG rfl c26_rll_ok c26_rll_dr c26_rll_gs ?_
                simp only [sX, simprocAttr, -List.reduceReplicate, hd]
                refine call_of (kidsE_ok _ _ _) ?_
                rintro v H2 ⟨rfl, h2⟩
                subst h2
                simp only [sX, simprocAttr, -List.reduceReplicate, e1, ek, es, set_neq']
                refine rF c26_rlrt c26_rlre rfl rfl ?_
                refine run_skip rfl ?_
                simp only [sP]
                refine rS c26_rrl c26_rrr rfl ?_
                refine rS c26_rrll c26_rrlr rfl ?_
                refine run_region rfl ?_
                simp only [sX, simprocAttr, -List.reduceReplicate]
                refine rF c26_rrlrt c26_rrlre rfl rfl ?_
                refine run_skip rfl ?_
                simp only [sP]
                refine rS c26_rrrl c26_rrrr rfl ?_
                refine rS c26_rrrll c26_rrrlr rfl ?_
                refine run_region rfl ?_
                simp only [sX, simprocAttr, -List.reduceReplicate]
                refine run_block (b := c26_rrrlrb) rfl ?_
                (refine run_loopk (b := c26_rrrlrbo) rfl keep26_6 ?_; simp only [sC, Nat.reduceBEq, Nat.reduceAdd])
                refine rS c26_rrrlrbol c26_rrrlrbor rfl ?_
                refine run_region rfl ?_
                simp only [sX, simprocAttr, -List.reduceReplicate]
                refine rS c26_rrrlrborl c26_rrrlrborr rfl ?_
                refine rT c26_rrrlrborlt c26_rrrlrborle rfl rfl ?_
                refine run_skip rfl ?_
                simp only [sP]
                refine rS c26_rrrlrborrl c26_rrrlrborrr rfl ?_
                refine run_block (b := c26_rrrlrborrlb) rfl ?_
                refine rS c26_rrrlrborrlbl c26_rrrlrborrlbr rfl ?_
                refine run_region rfl ?_
                simp only [sX, simprocAttr, -List.reduceReplicate, ho]
                refine rS c26_rrrlrborrlbrl c26_rrrlrborrlbrr rfl ?_
                refine run_region rfl ?_
                simp only [sX, simprocAttr, -List.reduceReplicate, hd1, hd2]
                refine call_of hca ?_
                rintro v H2 ⟨rfl, h2⟩
                subst h2
                rw [hva]
                simp only [sX, simprocAttr, -List.reduceReplicate]
                refine rS c26_rrrlrborrlbrrl c26_rrrlrborrlbrrr rfl ?_
                refine run_region rfl ?_
                simp only [sX, simprocAttr, -List.reduceReplicate, hwa]
                refine rS c26_rrrlrborrlbrrrl c26_rrrlrborrlbrrrr rfl ?_
                refine run_regionG rfl c26_rrrlrborrlbrrrl_gs ?_
                simp only [sX, simprocAttr, -List.reduceReplicate, hga']
                refine rF c26_rrrlrborrlbrrrrt c26_rrrlrborrlbrrrre rfl rfl ?_
                refine run_skip rfl ?_
                simp only [sP]
                refine run_region rfl ?_
                simp only [sX, simprocAttr, -List.reduceReplicate]
                (refine run_loopk (b := c26_rrrlrbo) rfl keep26_6 ?_; simp only [sC, Nat.reduceBEq, Nat.reduceAdd])
                refine rS c26_rrrlrbol c26_rrrlrbor rfl ?_
                refine run_region rfl ?_
                simp only [sX, simprocAttr, -List.reduceReplicate]
                refine rS c26_rrrlrborl c26_rrrlrborr rfl ?_
                refine rT c26_rrrlrborlt c26_rrrlrborle rfl rfl ?_
                refine run_skip rfl ?_
                simp only [sP]
                refine rS c26_rrrlrborrl c26_rrrlrborrr rfl ?_
                refine run_block (b := c26_rrrlrborrlb) rfl ?_
                refine rS c26_rrrlrborrlbl c26_rrrlrborrlbr rfl ?_
                refine run_region rfl ?_
                simp only [sX, simprocAttr, -List.reduceReplicate, ho]
                refine rS c26_rrrlrborrlbrl c26_rrrlrborrlbrr rfl ?_
                refine run_region rfl ?_
                simp only [sX, simprocAttr, -List.reduceReplicate, hd1, hd3]
                refine call_of hcb ?_
                rintro v H2 ⟨rfl, h2⟩
                subst h2
                rw [hvb]
                simp only [sX, simprocAttr, -List.reduceReplicate]
                refine rS c26_rrrlrborrlbrrl c26_rrrlrborrlbrrr rfl ?_
                refine run_region rfl ?_
                simp only [sX, simprocAttr, -List.reduceReplicate, hwb]
                refine rS c26_rrrlrborrlbrrrl c26_rrrlrborrlbrrrr rfl ?_
                refine run_regionG rfl c26_rrrlrborrlbrrrl_gs ?_
                simp only [sX, simprocAttr, -List.reduceReplicate, hgb]
                refine rF c26_rrrlrborrlbrrrrt c26_rrrlrborrlbrrrre rfl rfl ?_
                refine run_skip rfl ?_
                simp only [sP]
                refine run_region rfl ?_
                simp only [sX, simprocAttr, -List.reduceReplicate]
                (refine run_loopk (b := c26_rrrlrbo) rfl keep26_6 ?_; simp only [sC, Nat.reduceBEq, Nat.reduceAdd])
                refine rS c26_rrrlrbol c26_rrrlrbor rfl ?_
                refine run_region rfl ?_
                simp only [sX, simprocAttr, -List.reduceReplicate]
                refine rS c26_rrrlrborl c26_rrrlrborr rfl ?_
                refine rF c26_rrrlrborlt c26_rrrlrborle rfl rfl ?_
                refine run_exit rfl ?_
                simp only [sP, if_true]
                refine rS c26_rrrrl c26_rrrrr rfl ?_
                refine run_region rfl ?_
                simp only [sX, simprocAttr, -List.reduceReplicate]
                refine run_ret rfl ?_
                (simp only [sP]; refine ⟨_, (by rw [resultsA_eq Try.results26]; simp only [sR, List.mapM_cons, List.mapM_nil]; rfl), ?_⟩)
                exact ⟨rfl, trivial⟩
              | false =>
                have hv : shV (.node k s [a, b]) = .tuple #[.int .i64 0, .bool false] := by
                  have : (Tr.node k s [a, b]).shp = false := by simp [Tr.shp, shpL, hsb]
                  unfold shV; rw [this]; rfl
                have hvb : shV b = .tuple #[.int .i64 0, .bool false] := by unfold shV; rw [hsb]; rfl
                rw [hv]
                (refine call_intro fun26 name26 body26 ?_; simp only [Try.ntmps26, List.map_cons, List.map_nil, List.length_cons, List.length_nil, Nat.zero_add, Nat.reduceAdd, Nat.reduceSub, List.replicate_succ, List.replicate_zero, List.cons_append, List.nil_append])
                refine rS c26_l c26_r rfl ?_
                refine run_region rfl ?_
                simp only [sX, simprocAttr, -List.reduceReplicate]
                refine rS c26_rl c26_rr rfl ?_
                refine rS c26_rll c26_rlr rfl ?_
                refine run_drawG rfl c26_rll_ok c26_rll_dr c26_rll_gs ?_
                simp only [sX, simprocAttr, -List.reduceReplicate, hd]
                refine call_of (kidsE_ok _ _ _) ?_
                rintro v H2 ⟨rfl, h2⟩
                subst h2
                simp only [sX, simprocAttr, -List.reduceReplicate, e1, ek, es, set_neq']
                refine rF c26_rlrt c26_rlre rfl rfl ?_
                refine run_skip rfl ?_
                simp only [sP]
                refine rS c26_rrl c26_rrr rfl ?_
                refine rS c26_rrll c26_rrlr rfl ?_
                refine run_region rfl ?_
                simp only [sX, simprocAttr, -List.reduceReplicate]
                refine rF c26_rrlrt c26_rrlre rfl rfl ?_
                refine run_skip rfl ?_
                simp only [sP]
                refine rS c26_rrrl c26_rrrr rfl ?_
                refine rS c26_rrrll c26_rrrlr rfl ?_
                refine run_region rfl ?_
                simp only [sX, simprocAttr, -List.reduceReplicate]
                refine run_block (b := c26_rrrlrb) rfl ?_
                (refine run_loopk (b := c26_rrrlrbo) rfl keep26_6 ?_; simp only [sC, Nat.reduceBEq, Nat.reduceAdd])
                refine rS c26_rrrlrbol c26_rrrlrbor rfl ?_
                refine run_region rfl ?_
                simp only [sX, simprocAttr, -List.reduceReplicate]
                refine rS c26_rrrlrborl c26_rrrlrborr rfl ?_
                refine rT c26_rrrlrborlt c26_rrrlrborle rfl rfl ?_
                refine run_skip rfl ?_
                simp only [sP]
                refine rS c26_rrrlrborrl c26_rrrlrborrr rfl ?_
                refine run_block (b := c26_rrrlrborrlb) rfl ?_
                refine rS c26_rrrlrborrlbl c26_rrrlrborrlbr rfl ?_
                refine run_region rfl ?_
                simp only [sX, simprocAttr, -List.reduceReplicate, ho]
                refine rS c26_rrrlrborrlbrl c26_rrrlrborrlbrr rfl ?_
                refine run_region rfl ?_
                simp only [sX, simprocAttr, -List.reduceReplicate, hd1, hd2]
                refine call_of hca ?_
                rintro v H2 ⟨rfl, h2⟩
                subst h2
                rw [hva]
                simp only [sX, simprocAttr, -List.reduceReplicate]
                refine rS c26_rrrlrborrlbrrl c26_rrrlrborrlbrrr rfl ?_
                refine run_region rfl ?_
                simp only [sX, simprocAttr, -List.reduceReplicate, hwa]
                refine rS c26_rrrlrborrlbrrrl c26_rrrlrborrlbrrrr rfl ?_
                refine run_regionG rfl c26_rrrlrborrlbrrrl_gs ?_
                simp only [sX, simprocAttr, -List.reduceReplicate, hga']
                refine rF c26_rrrlrborrlbrrrrt c26_rrrlrborrlbrrrre rfl rfl ?_
                refine run_skip rfl ?_
                simp only [sP]
                refine run_region rfl ?_
                simp only [sX, simprocAttr, -List.reduceReplicate]
                (refine run_loopk (b := c26_rrrlrbo) rfl keep26_6 ?_; simp only [sC, Nat.reduceBEq, Nat.reduceAdd])
                refine rS c26_rrrlrbol c26_rrrlrbor rfl ?_
                refine run_region rfl ?_
                simp only [sX, simprocAttr, -List.reduceReplicate]
                refine rS c26_rrrlrborl c26_rrrlrborr rfl ?_
                refine rT c26_rrrlrborlt c26_rrrlrborle rfl rfl ?_
                refine run_skip rfl ?_
                simp only [sP]
                refine rS c26_rrrlrborrl c26_rrrlrborrr rfl ?_
                refine run_block (b := c26_rrrlrborrlb) rfl ?_
                refine rS c26_rrrlrborrlbl c26_rrrlrborrlbr rfl ?_
                refine run_region rfl ?_
                simp only [sX, simprocAttr, -List.reduceReplicate, ho]
                refine rS c26_rrrlrborrlbrl c26_rrrlrborrlbrr rfl ?_
                refine run_region rfl ?_
                simp only [sX, simprocAttr, -List.reduceReplicate, hd1, hd3]
                refine call_of hcb ?_
                rintro v H2 ⟨rfl, h2⟩
                subst h2
                rw [hvb]
                simp only [sX, simprocAttr, -List.reduceReplicate]
                refine rS c26_rrrlrborrlbrrl c26_rrrlrborrlbrrr rfl ?_
                refine run_region rfl ?_
                simp only [sX, simprocAttr, -List.reduceReplicate]
                refine rS c26_rrrlrborrlbrrrl c26_rrrlrborrlbrrrr rfl ?_
                refine run_regionG rfl c26_rrrlrborrlbrrrl_gs ?_
                simp only [sX, simprocAttr, -List.reduceReplicate]
                refine rT c26_rrrlrborrlbrrrrt c26_rrrlrborrlbrrrre rfl rfl ?_
                refine rS c26_rrrlrborrlbrrrrtl c26_rrrlrborrlbrrrrtr rfl ?_
                refine run_region rfl ?_
                simp only [sX, simprocAttr, -List.reduceReplicate]
                refine run_ret rfl ?_
                (simp only [sP]; refine ⟨_, (by rw [resultsA_eq Try.results26]; simp only [sR, List.mapM_cons, List.mapM_nil]; rfl), ?_⟩)
                exact ⟨rfl, trivial⟩
            | false =>
              have hv : shV (.node k s [a, b]) = .tuple #[.int .i64 0, .bool false] := by
                have : (Tr.node k s [a, b]).shp = false := by simp [Tr.shp, shpL, hsa]
                unfold shV; rw [this]; rfl
              have hva : shV a = .tuple #[.int .i64 0, .bool false] := by unfold shV; rw [hsa]; rfl
              rw [hv]
              (refine call_intro fun26 name26 body26 ?_; simp only [Try.ntmps26, List.map_cons, List.map_nil, List.length_cons, List.length_nil, Nat.zero_add, Nat.reduceAdd, Nat.reduceSub, List.replicate_succ, List.replicate_zero, List.cons_append, List.nil_append])
              refine rS c26_l c26_r rfl ?_
              refine run_region rfl ?_
              simp only [sX, simprocAttr, -List.reduceReplicate]
              refine rS c26_rl c26_rr rfl ?_
              refine rS c26_rll c26_rlr rfl ?_
              refine run_drawG rfl c26_rll_ok c26_rll_dr c26_rll_gs ?_
              simp only [sX, simprocAttr, -List.reduceReplicate, hd]
              refine call_of (kidsE_ok _ _ _) ?_
              rintro v H2 ⟨rfl, h2⟩
              subst h2
              simp only [sX, simprocAttr, -List.reduceReplicate, e1, ek, es, set_neq']
              refine rF c26_rlrt c26_rlre rfl rfl ?_
              refine run_skip rfl ?_
              simp only [sP]
              refine rS c26_rrl c26_rrr rfl ?_
              refine rS c26_rrll c26_rrlr rfl ?_
              refine run_region rfl ?_
              simp only [sX, simprocAttr, -List.reduceReplicate]
              refine rF c26_rrlrt c26_rrlre rfl rfl ?_
              refine run_skip rfl ?_
              simp only [sP]
              refine rS c26_rrrl c26_rrrr rfl ?_
              refine rS c26_rrrll c26_rrrlr rfl ?_
              refine run_region rfl ?_
              simp only [sX, simprocAttr, -List.reduceReplicate]
              refine run_block (b := c26_rrrlrb) rfl ?_
              (refine run_loopk (b := c26_rrrlrbo) rfl keep26_6 ?_; simp only [sC, Nat.reduceBEq, Nat.reduceAdd])
              refine rS c26_rrrlrbol c26_rrrlrbor rfl ?_
              refine run_region rfl ?_
              simp only [sX, simprocAttr, -List.reduceReplicate]
              refine rS c26_rrrlrborl c26_rrrlrborr rfl ?_
              refine rT c26_rrrlrborlt c26_rrrlrborle rfl rfl ?_
              refine run_skip rfl ?_
              simp only [sP]
              refine rS c26_rrrlrborrl c26_rrrlrborrr rfl ?_
              refine run_block (b := c26_rrrlrborrlb) rfl ?_
              refine rS c26_rrrlrborrlbl c26_rrrlrborrlbr rfl ?_
              refine run_region rfl ?_
              simp only [sX, simprocAttr, -List.reduceReplicate, ho]
              refine rS c26_rrrlrborrlbrl c26_rrrlrborrlbrr rfl ?_
              refine run_region rfl ?_
              simp only [sX, simprocAttr, -List.reduceReplicate, hd1, hd2]
              refine call_of hca ?_
              rintro v H2 ⟨rfl, h2⟩
              subst h2
              rw [hva]
              simp only [sX, simprocAttr, -List.reduceReplicate]
              refine rS c26_rrrlrborrlbrrl c26_rrrlrborrlbrrr rfl ?_
              refine run_region rfl ?_
              simp only [sX, simprocAttr, -List.reduceReplicate]
              refine rS c26_rrrlrborrlbrrrl c26_rrrlrborrlbrrrr rfl ?_
              refine run_regionG rfl c26_rrrlrborrlbrrrl_gs ?_
              simp only [sX, simprocAttr, -List.reduceReplicate]
              refine rT c26_rrrlrborrlbrrrrt c26_rrrlrborrlbrrrre rfl rfl ?_
              refine rS c26_rrrlrborrlbrrrrtl c26_rrrlrborrlbrrrrtr rfl ?_
              refine run_region rfl ?_
              simp only [sX, simprocAttr, -List.reduceReplicate]
              refine run_ret rfl ?_
              (simp only [sP]; refine ⟨_, (by rw [resultsA_eq Try.results26]; simp only [sR, List.mapM_cons, List.mapM_nil]; rfl), ?_⟩)
              exact ⟨rfl, trivial⟩
          | a :: b :: c :: l, hT, hI, hlv, hm, e1 =>
            exfalso
            simp only [List.length_cons] at hm
            unfold kidsN at hm
            split at hm
            · omega
            · split at hm
              · omega
              · split at hm <;> omega
        · have ek : decide (k = 1) = false := by simp; exact fun h => hb (.inl h)
          have es : decide (s = S4.z) = false := by simp; exact fun h => hb (.inr h)
          have hv : shV (.node k s l) = .tuple #[.int .i64 0, .bool false] := by
            have : (Tr.node k s l).shp = false := by simp only [Tr.shp, ek, es]; simp
            unfold shV; rw [this]; rfl
          rw [hv]
          (refine call_intro fun26 name26 body26 ?_; simp only [Try.ntmps26, List.map_cons, List.map_nil, List.length_cons, List.length_nil, Nat.zero_add, Nat.reduceAdd, Nat.reduceSub, List.replicate_succ, List.replicate_zero, List.cons_append, List.nil_append])
          refine rS c26_l c26_r rfl ?_
          refine run_region rfl ?_
          simp only [sX, simprocAttr, -List.reduceReplicate]
          refine rS c26_rl c26_rr rfl ?_
          refine rS c26_rll c26_rlr rfl ?_
          refine run_drawG rfl c26_rll_ok c26_rll_dr c26_rll_gs ?_
          simp only [sX, simprocAttr, -List.reduceReplicate, hd]
          refine call_of (kidsE_ok _ _ _) ?_
          rintro v H2 ⟨rfl, h2⟩
          subst h2
          simp only [sX, simprocAttr, -List.reduceReplicate, e1, ek, es, set_neq']
          refine rT c26_rlrt c26_rlre rfl rfl ?_
          refine rS c26_rlrtl c26_rlrtr rfl ?_
          refine run_region rfl ?_
          simp only [sX, simprocAttr, -List.reduceReplicate]
          refine run_ret rfl ?_
          (simp only [sP]; refine ⟨_, (by rw [resultsA_eq Try.results26]; simp only [sR, List.mapM_cons, List.mapM_nil]; rfl), ?_⟩)
          exact ⟨rfl, trivial⟩
      · have e1 : decide (kidsN k = (l.length : Int)) = false := by simp [hm]
        have hv : shV (.node k s l) = .tuple #[.int .i64 0, .bool false] := by
          have : (Tr.node k s l).shp = false := by simp [Tr.shp, hm]
          unfold shV; rw [this]; rfl
        rw [hv]
        (refine call_intro fun26 name26 body26 ?_; simp only [Try.ntmps26, List.map_cons, List.map_nil, List.length_cons, List.length_nil, Nat.zero_add, Nat.reduceAdd, Nat.reduceSub, List.replicate_succ, List.replicate_zero, List.cons_append, List.nil_append])
        refine rS c26_l c26_r rfl ?_
        refine run_region rfl ?_
        simp only [sX, simprocAttr, -List.reduceReplicate]
        refine rS c26_rl c26_rr rfl ?_
        refine rS c26_rll c26_rlr rfl ?_
        refine run_drawG rfl c26_rll_ok c26_rll_dr c26_rll_gs ?_
        simp only [sX, simprocAttr, -List.reduceReplicate, hd]
        refine call_of (kidsE_ok _ _ _) ?_
        rintro v H2 ⟨rfl, h2⟩
        subst h2
        simp only [sX, simprocAttr, -List.reduceReplicate, e1]
        refine rT c26_rlrt c26_rlre rfl rfl ?_
        refine rS c26_rlrtl c26_rlrtr rfl ?_
        refine run_region rfl ?_
        simp only [sX, simprocAttr, -List.reduceReplicate]
        refine run_ret rfl ?_
        (simp only [sP]; refine ⟨_, (by rw [resultsA_eq Try.results26]; simp only [sR, List.mapM_cons, List.mapM_nil]; rfl), ?_⟩)
        exact ⟨rfl, trivial⟩

end Go.Proofs.Ytmgofjgfmcmceaa
end
