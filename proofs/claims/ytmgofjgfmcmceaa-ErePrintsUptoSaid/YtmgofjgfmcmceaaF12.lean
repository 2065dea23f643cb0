/- Lemmas of the walks. -/
import Derived.Test.YtmgofjgfmcmceaaF11
section
namespace Go.Proofs.Ytmgofjgfmcmceaa
open Go.RowKit
set_option maxRecDepth 4000
set_option maxHeartbeats 4000000

theorem re_pos (d : Nat) (hd0 : 1 ≤ d) (hd : d ≤ 100) (ih : ∀ d', d = d' + 1 → RePost d') : RePost d := by
  intro r cs lim H hr
  have hform : ∃ rk rn sl, cs = [.int .i64 rk, .int .i64 rn, sl] ∧ isCell sl = true := by
    cases hr with
    | nil k n c => exact ⟨k, n, _, rfl, rfl⟩
    | cons k n kids b off c wr cells hb hl hm hk => exact ⟨k, n, _, rfl, rfl⟩
  obtain ⟨rk, rn, sl, rfl, hsl⟩ := hform
  have g01 : Gr H (H ++ [some ⟨true, 0, [.int .i64 rk, .int .i64 rn, sl]⟩] ++ [some ⟨true, 0, [.int .i64 (d : Int)]⟩]) := (Gr.snoc _ _).trans (Gr.snoc _ _)
  have g2 : getO (H ++ [some ⟨true, 0, [.int .i64 rk, .int .i64 rn, sl]⟩] ++ [some ⟨true, 0, [.int .i64 (d : Int)]⟩]) H.length = some ⟨true, 0, [.int .i64 rk, .int .i64 rn, sl]⟩ := by rw [getO_snoc (by rw [len_snoc]; omega)]; exact getO_append_new
  have g3 : getO (H ++ [some ⟨true, 0, [.int .i64 rk, .int .i64 rn, sl]⟩] ++ [some ⟨true, 0, [.int .i64 (d : Int)]⟩]) (H.length + 1) = some ⟨true, 0, [.int .i64 (d : Int)]⟩ := getO_append_of_len (by rw [len_snoc])
  have hr2 := hr.gr g01
  obtain ⟨c3, hc3, hx3⟩ := abc_ix (rn % 3) (by omega)
  obtain ⟨s3, hs3⟩ := one_ok' c3 hc3
  obtain ⟨c2, hc2, hx2⟩ := ab_ix (rn % 2) (by omega)
  obtain ⟨s2, hs2⟩ := one_ok' c2 hc2
  have hz1 : (List.replicate 256 (Value.bool false)).toArray.toList.all noRef = true := by simp [noRef]
  have hz2 : (List.replicate 256 (Value.bool false)).toArray.toList.all isCell = true := by simp [isCell]
  have hf : mkFn (.func 13) (some [.pointer (some ⟨H.length, 0, none⟩), .pointer (some ⟨H.length + 1, 0, none⟩)]) = some (.func (.func 13) #[] #[.pointer (some ⟨H.length, 0, none⟩), .pointer (some ⟨H.length + 1, 0, none⟩)]) := rfl
  have hk : rk % 12 = 0 ∨ rk % 12 = 1 ∨ rk % 12 = 2 ∨ rk % 12 = 3 ∨ rk % 12 = 4 ∨ rk % 12 = 5 ∨ rk % 12 = 6 ∨ rk % 12 = 7 ∨ rk % 12 = 8 ∨ rk % 12 = 9 ∨ rk % 12 = 10 ∨ rk % 12 = 11 := by omega
  have e0 : decide ((d : Int) ≤ 0) = false := by simp; omega
  have hkid := fun lim (H' : Hp) (hg' : Gr (H ++ [some ⟨true, 0, [.int .i64 rk, .int .i64 rn, sl]⟩] ++ [some ⟨true, 0, [.int .i64 (d : Int)]⟩]) H') (i : Nat) (hi : i ≤ 1) => kid_ok d hd ih r rk rn sl lim H' H.length (H.length + 1) true true i hi ((hg'.2 _ (by rw [len_snoc, len_snoc]; omega)).trans g2) ((hg'.2 _ (by rw [len_snoc, len_snoc]; omega)).trans g3) (hr2.gr hg') hd0
  rcases hk with hk | hk | hk | hk | hk | hk | hk | hk | hk | hk | hk | hk
  · (refine call_intro fun5 name5 body5 ?_; simp only [Try.ntmps5, List.map_cons, List.map_nil, List.length_cons, List.length_nil, Nat.zero_add, Nat.reduceAdd, Nat.reduceSub, List.replicate_succ, List.replicate_zero, List.cons_append, List.nil_append])
    refine rS c5_l c5_r rfl ?_
    refine run_region rfl ?_
    simp only [sX, simprocAttr, -List.reduceReplicate, hsl, List.toList_toArray]
    refine rS c5_rl c5_rr rfl ?_
    refine run_region rfl ?_
    simp only [sX, simprocAttr, -List.reduceReplicate, g2]
    refine call_of (pick_ok rk 12 (by decide) (by decide) _ _) ?_
    rintro v H2 ⟨rfl, hh⟩
    subst hh
    rw [hk]
    simp only [sX, simprocAttr, -List.reduceReplicate]
    refine rS c5_rrl c5_rrr rfl ?_
    refine run_region rfl ?_
    simp only [sX, simprocAttr, -List.reduceReplicate, exe_makeFunc, hf]
    refine rS c5_rrrl c5_rrrr rfl ?_
    refine rS c5_rrrll c5_rrrlr rfl ?_
    refine run_regionG rfl c5_rrrll_gs ?_
    simp only [sX, simprocAttr, -List.reduceReplicate, g3, e0]
    refine rF c5_rrrlrt c5_rrrlre rfl rfl ?_
    refine run_skip rfl ?_
    simp only [sP]
    refine rS c5_rrrrl c5_rrrrr rfl ?_
    refine rS c5_rrrrll c5_rrrrlr rfl ?_
    refine run_region rfl ?_
    simp only [sX, simprocAttr, -List.reduceReplicate]
    refine run_block (b := c5_rrrrlrb) rfl ?_
    refine rS c5_rrrrlrbl c5_rrrrlrbr rfl ?_
    refine rS c5_rrrrlrbll c5_rrrrlrblr rfl ?_
    refine run_region rfl ?_
    simp only [sX, simprocAttr, -List.reduceReplicate]
    refine rF c5_rrrrlrblrt c5_rrrrlrblre rfl rfl ?_
    refine run_region rfl ?_
    simp only [sX, simprocAttr, -List.reduceReplicate]
    refine rF c5_rrrrlrbrt c5_rrrrlrbre rfl rfl ?_
    refine rS c5_rrrrlrbrel c5_rrrrlrbrer rfl ?_
    refine rS c5_rrrrlrbrell c5_rrrrlrbrelr rfl ?_
    refine run_region rfl ?_
    simp only [sX, simprocAttr, -List.reduceReplicate]
    refine rF c5_rrrrlrbrelrt c5_rrrrlrbrelre rfl rfl ?_
    refine run_region rfl ?_
    simp only [sX, simprocAttr, -List.reduceReplicate]
    refine rF c5_rrrrlrbrert c5_rrrrlrbrere rfl rfl ?_
    refine rS c5_rrrrlrbrerel c5_rrrrlrbrerer rfl ?_
    refine run_region rfl ?_
    simp only [sX, simprocAttr, -List.reduceReplicate]
    refine rF c5_rrrrlrbrerert c5_rrrrlrbrerere rfl rfl ?_
    refine rS c5_rrrrlrbrererel c5_rrrrlrbrererer rfl ?_
    refine run_region rfl ?_
    simp only [sX, simprocAttr, -List.reduceReplicate]
    refine rF c5_rrrrlrbrererert c5_rrrrlrbrererere rfl rfl ?_
    refine rS c5_rrrrlrbrerererel c5_rrrrlrbrerererer rfl ?_
    refine run_region rfl ?_
    simp only [sX, simprocAttr, -List.reduceReplicate]
    refine rF c5_rrrrlrbrerererert c5_rrrrlrbrerererere rfl rfl ?_
    refine rS c5_rrrrlrbrererererel c5_rrrrlrbrererererer rfl ?_
    refine rS c5_rrrrlrbrererererell c5_rrrrlrbrererererelr rfl ?_
    refine run_region rfl ?_
    simp only [sX, simprocAttr, -List.reduceReplicate]
    refine rT c5_rrrrlrbrererererelrt c5_rrrrlrbrererererelre rfl rfl ?_
    refine run_skip rfl ?_
    simp only [sP]
    refine rT c5_rrrrlrbrererererert c5_rrrrlrbrererererere rfl rfl ?_
    refine rS c5_rrrrlrbrererererertl c5_rrrrlrbrererererertr rfl ?_
    refine run_region rfl ?_
    simp only [sX, simprocAttr, -List.reduceReplicate, g2]
    refine call_of (pick_ok rn 3 (by decide) (by decide) _ _) ?_
    rintro v H2 ⟨rfl, hh⟩
    subst hh
    simp only [sX, simprocAttr, -List.reduceReplicate, hx3]
    refine call_of (hs3 _ _) ?_
    rintro v H2 ⟨rfl, hh⟩
    subst hh
    unfold reV
    simp only [sX, simprocAttr, -List.reduceReplicate, List.toList_toArray]
    refine run_ret rfl ?_
    (simp only [sP]; refine ⟨_, (by rw [resultsA_eq Try.results5]; simp only [sR, List.mapM_cons, List.mapM_nil, if_true, Nat.reduceAdd]; rfl), ?_⟩)
    exact gotT_leaf _ _ g01 1 s3 d
  · (refine call_intro fun5 name5 body5 ?_; simp only [Try.ntmps5, List.map_cons, List.map_nil, List.length_cons, List.length_nil, Nat.zero_add, Nat.reduceAdd, Nat.reduceSub, List.replicate_succ, List.replicate_zero, List.cons_append, List.nil_append])
    refine rS c5_l c5_r rfl ?_
    refine run_region rfl ?_
    simp only [sX, simprocAttr, -List.reduceReplicate, hsl, List.toList_toArray]
    refine rS c5_rl c5_rr rfl ?_
    refine run_region rfl ?_
    simp only [sX, simprocAttr, -List.reduceReplicate, g2]
    refine call_of (pick_ok rk 12 (by decide) (by decide) _ _) ?_
    rintro v H2 ⟨rfl, hh⟩
    subst hh
    rw [hk]
    simp only [sX, simprocAttr, -List.reduceReplicate]
    refine rS c5_rrl c5_rrr rfl ?_
    refine run_region rfl ?_
    simp only [sX, simprocAttr, -List.reduceReplicate, exe_makeFunc, hf]
    refine rS c5_rrrl c5_rrrr rfl ?_
    refine rS c5_rrrll c5_rrrlr rfl ?_
    refine run_regionG rfl c5_rrrll_gs ?_
    simp only [sX, simprocAttr, -List.reduceReplicate, g3, e0]
    refine rF c5_rrrlrt c5_rrrlre rfl rfl ?_
    refine run_skip rfl ?_
    simp only [sP]
    refine rS c5_rrrrl c5_rrrrr rfl ?_
    refine rS c5_rrrrll c5_rrrrlr rfl ?_
    refine run_region rfl ?_
    simp only [sX, simprocAttr, -List.reduceReplicate]
    refine run_block (b := c5_rrrrlrb) rfl ?_
    refine rS c5_rrrrlrbl c5_rrrrlrbr rfl ?_
    refine rS c5_rrrrlrbll c5_rrrrlrblr rfl ?_
    refine run_region rfl ?_
    simp only [sX, simprocAttr, -List.reduceReplicate]
    refine rF c5_rrrrlrblrt c5_rrrrlrblre rfl rfl ?_
    refine run_region rfl ?_
    simp only [sX, simprocAttr, -List.reduceReplicate]
    refine rF c5_rrrrlrbrt c5_rrrrlrbre rfl rfl ?_
    refine rS c5_rrrrlrbrel c5_rrrrlrbrer rfl ?_
    refine rS c5_rrrrlrbrell c5_rrrrlrbrelr rfl ?_
    refine run_region rfl ?_
    simp only [sX, simprocAttr, -List.reduceReplicate]
    refine rF c5_rrrrlrbrelrt c5_rrrrlrbrelre rfl rfl ?_
    refine run_region rfl ?_
    simp only [sX, simprocAttr, -List.reduceReplicate]
    refine rF c5_rrrrlrbrert c5_rrrrlrbrere rfl rfl ?_
    refine rS c5_rrrrlrbrerel c5_rrrrlrbrerer rfl ?_
    refine run_region rfl ?_
    simp only [sX, simprocAttr, -List.reduceReplicate]
    refine rF c5_rrrrlrbrerert c5_rrrrlrbrerere rfl rfl ?_
    refine rS c5_rrrrlrbrererel c5_rrrrlrbrererer rfl ?_
    refine run_region rfl ?_
    simp only [sX, simprocAttr, -List.reduceReplicate]
    refine rF c5_rrrrlrbrererert c5_rrrrlrbrererere rfl rfl ?_
    refine rS c5_rrrrlrbrerererel c5_rrrrlrbrerererer rfl ?_
    refine run_region rfl ?_
    simp only [sX, simprocAttr, -List.reduceReplicate]
    refine rF c5_rrrrlrbrerererert c5_rrrrlrbrerererere rfl rfl ?_
    refine rS c5_rrrrlrbrererererel c5_rrrrlrbrererererer rfl ?_
    refine rS c5_rrrrlrbrererererell c5_rrrrlrbrererererelr rfl ?_
    refine run_region rfl ?_
    simp only [sX, simprocAttr, -List.reduceReplicate]
    refine rF c5_rrrrlrbrererererelrt c5_rrrrlrbrererererelre rfl rfl ?_
    refine run_region rfl ?_
    simp only [sX, simprocAttr, -List.reduceReplicate]
    refine rT c5_rrrrlrbrererererert c5_rrrrlrbrererererere rfl rfl ?_
    refine rS c5_rrrrlrbrererererertl c5_rrrrlrbrererererertr rfl ?_
    refine run_region rfl ?_
    simp only [sX, simprocAttr, -List.reduceReplicate, g2]
    refine call_of (pick_ok rn 3 (by decide) (by decide) _ _) ?_
    rintro v H2 ⟨rfl, hh⟩
    subst hh
    simp only [sX, simprocAttr, -List.reduceReplicate, hx3]
    refine call_of (hs3 _ _) ?_
    rintro v H2 ⟨rfl, hh⟩
    subst hh
    unfold reV
    simp only [sX, simprocAttr, -List.reduceReplicate, List.toList_toArray]
    refine run_ret rfl ?_
    (simp only [sP]; refine ⟨_, (by rw [resultsA_eq Try.results5]; simp only [sR, List.mapM_cons, List.mapM_nil, if_true, Nat.reduceAdd]; rfl), ?_⟩)
    exact gotT_leaf _ _ g01 1 s3 d
  · (refine call_intro fun5 name5 body5 ?_; simp only [Try.ntmps5, List.map_cons, List.map_nil, List.length_cons, List.length_nil, Nat.zero_add, Nat.reduceAdd, Nat.reduceSub, List.replicate_succ, List.replicate_zero, List.cons_append, List.nil_append])
    refine rS c5_l c5_r rfl ?_
    refine run_region rfl ?_
    simp only [sX, simprocAttr, -List.reduceReplicate, hsl, List.toList_toArray]
    refine rS c5_rl c5_rr rfl ?_
    refine run_region rfl ?_
    simp only [sX, simprocAttr, -List.reduceReplicate, g2]
    refine call_of (pick_ok rk 12 (by decide) (by decide) _ _) ?_
    rintro v H2 ⟨rfl, hh⟩
    subst hh
    rw [hk]
    simp only [sX, simprocAttr, -List.reduceReplicate]
    refine rS c5_rrl c5_rrr rfl ?_
    refine run_region rfl ?_
    simp only [sX, simprocAttr, -List.reduceReplicate, exe_makeFunc, hf]
    refine rS c5_rrrl c5_rrrr rfl ?_
    refine rS c5_rrrll c5_rrrlr rfl ?_
    refine run_regionG rfl c5_rrrll_gs ?_
    simp only [sX, simprocAttr, -List.reduceReplicate, g3, e0]
    refine rF c5_rrrlrt c5_rrrlre rfl rfl ?_
    refine run_skip rfl ?_
    simp only [sP]
    refine rS c5_rrrrl c5_rrrrr rfl ?_
    refine rS c5_rrrrll c5_rrrrlr rfl ?_
    refine run_region rfl ?_
    simp only [sX, simprocAttr, -List.reduceReplicate]
    refine run_block (b := c5_rrrrlrb) rfl ?_
    refine rS c5_rrrrlrbl c5_rrrrlrbr rfl ?_
    refine rS c5_rrrrlrbll c5_rrrrlrblr rfl ?_
    refine run_region rfl ?_
    simp only [sX, simprocAttr, -List.reduceReplicate]
    refine rF c5_rrrrlrblrt c5_rrrrlrblre rfl rfl ?_
    refine run_region rfl ?_
    simp only [sX, simprocAttr, -List.reduceReplicate]
    refine rF c5_rrrrlrbrt c5_rrrrlrbre rfl rfl ?_
    refine rS c5_rrrrlrbrel c5_rrrrlrbrer rfl ?_
    refine rS c5_rrrrlrbrell c5_rrrrlrbrelr rfl ?_
    refine run_region rfl ?_
    simp only [sX, simprocAttr, -List.reduceReplicate]
    refine rF c5_rrrrlrbrelrt c5_rrrrlrbrelre rfl rfl ?_
    refine run_region rfl ?_
    simp only [sX, simprocAttr, -List.reduceReplicate]
    refine rF c5_rrrrlrbrert c5_rrrrlrbrere rfl rfl ?_
    refine rS c5_rrrrlrbrerel c5_rrrrlrbrerer rfl ?_
    refine run_region rfl ?_
    simp only [sX, simprocAttr, -List.reduceReplicate]
    refine rF c5_rrrrlrbrerert c5_rrrrlrbrerere rfl rfl ?_
    refine rS c5_rrrrlrbrererel c5_rrrrlrbrererer rfl ?_
    refine run_region rfl ?_
    simp only [sX, simprocAttr, -List.reduceReplicate]
    refine rF c5_rrrrlrbrererert c5_rrrrlrbrererere rfl rfl ?_
    refine rS c5_rrrrlrbrerererel c5_rrrrlrbrerererer rfl ?_
    refine run_region rfl ?_
    simp only [sX, simprocAttr, -List.reduceReplicate]
    refine rF c5_rrrrlrbrerererert c5_rrrrlrbrerererere rfl rfl ?_
    refine rS c5_rrrrlrbrererererel c5_rrrrlrbrererererer rfl ?_
    refine rS c5_rrrrlrbrererererell c5_rrrrlrbrererererelr rfl ?_
    refine run_region rfl ?_
    simp only [sX, simprocAttr, -List.reduceReplicate]
    refine rF c5_rrrrlrbrererererelrt c5_rrrrlrbrererererelre rfl rfl ?_
    refine run_region rfl ?_
    simp only [sX, simprocAttr, -List.reduceReplicate]
    refine rF c5_rrrrlrbrererererert c5_rrrrlrbrererererere rfl rfl ?_
    refine rS c5_rrrrlrbrerererererel c5_rrrrlrbrerererererer rfl ?_
    refine run_region rfl ?_
    simp only [sX, simprocAttr, -List.reduceReplicate]
    refine rT c5_rrrrlrbrerererererert c5_rrrrlrbrerererererere rfl rfl ?_
    refine rS c5_rrrrlrbrerererererertl c5_rrrrlrbrerererererertr rfl ?_
    refine run_region rfl ?_
    simp only [sX, simprocAttr, -List.reduceReplicate, List.toList_toArray, hz1, hz2]
    refine rS c5_rrrrlrbrerererererertrl c5_rrrrlrbrerererererertrr rfl ?_
    refine rS c5_rrrrlrbrerererererertrll c5_rrrrlrbrerererererertrlr rfl ?_
    refine run_region rfl ?_
    simp only [sX, simprocAttr, -List.reduceReplicate]
    refine run_block (b := c5_rrrrlrbrerererererertrlrb) rfl ?_
    exact tbl_loop _ _ _ rk rn sl H.length (H.length + 1) d g2 (fun s H1 hg => gotT_leaf _ _ (g01.trans hg) 1 s d) 256 0 _ rfl (by simp only [sC, Nat.reduceBEq, Nat.reduceAdd]; simp [tbR])
  · have h3 : rn % 3 = 0 ∨ rn % 3 = 1 ∨ rn % 3 = 2 := by omega
    rcases h3 with h3 | h3 | h3
    · (refine call_intro fun5 name5 body5 ?_; simp only [Try.ntmps5, List.map_cons, List.map_nil, List.length_cons, List.length_nil, Nat.zero_add, Nat.reduceAdd, Nat.reduceSub, List.replicate_succ, List.replicate_zero, List.cons_append, List.nil_append])
      refine rS c5_l c5_r rfl ?_
      refine run_region rfl ?_
      simp only [sX, simprocAttr, -List.reduceReplicate, hsl, List.toList_toArray]
      refine rS c5_rl c5_rr rfl ?_
      refine run_region rfl ?_
      simp only [sX, simprocAttr, -List.reduceReplicate, g2]
      refine call_of (pick_ok rk 12 (by decide) (by decide) _ _) ?_
      rintro v H2 ⟨rfl, hh⟩
      subst hh
      rw [hk]
      simp only [sX, simprocAttr, -List.reduceReplicate]
      refine rS c5_rrl c5_rrr rfl ?_
      refine run_region rfl ?_
      simp only [sX, simprocAttr, -List.reduceReplicate, exe_makeFunc, hf]
      refine rS c5_rrrl c5_rrrr rfl ?_
      refine rS c5_rrrll c5_rrrlr rfl ?_
      refine run_regionG rfl c5_rrrll_gs ?_
      simp only [sX, simprocAttr, -List.reduceReplicate, g3, e0]
      refine rF c5_rrrlrt c5_rrrlre rfl rfl ?_
      refine run_skip rfl ?_
      simp only [sP]
      refine rS c5_rrrrl c5_rrrrr rfl ?_
      refine rS c5_rrrrll c5_rrrrlr rfl ?_
      refine run_region rfl ?_
      simp only [sX, simprocAttr, -List.reduceReplicate]
      refine run_block (b := c5_rrrrlrb) rfl ?_
      refine rS c5_rrrrlrbl c5_rrrrlrbr rfl ?_
      refine rS c5_rrrrlrbll c5_rrrrlrblr rfl ?_
      refine run_region rfl ?_
      simp only [sX, simprocAttr, -List.reduceReplicate]
      refine rF c5_rrrrlrblrt c5_rrrrlrblre rfl rfl ?_
      refine run_region rfl ?_
      simp only [sX, simprocAttr, -List.reduceReplicate]
      refine rF c5_rrrrlrbrt c5_rrrrlrbre rfl rfl ?_
      refine rS c5_rrrrlrbrel c5_rrrrlrbrer rfl ?_
      refine rS c5_rrrrlrbrell c5_rrrrlrbrelr rfl ?_
      refine run_region rfl ?_
      simp only [sX, simprocAttr, -List.reduceReplicate]
      refine rF c5_rrrrlrbrelrt c5_rrrrlrbrelre rfl rfl ?_
      refine run_region rfl ?_
      simp only [sX, simprocAttr, -List.reduceReplicate]
      refine rF c5_rrrrlrbrert c5_rrrrlrbrere rfl rfl ?_
      refine rS c5_rrrrlrbrerel c5_rrrrlrbrerer rfl ?_
      refine run_region rfl ?_
      simp only [sX, simprocAttr, -List.reduceReplicate]
      refine rF c5_rrrrlrbrerert c5_rrrrlrbrerere rfl rfl ?_
      refine rS c5_rrrrlrbrererel c5_rrrrlrbrererer rfl ?_
      refine run_region rfl ?_
      simp only [sX, simprocAttr, -List.reduceReplicate]
      refine rF c5_rrrrlrbrererert c5_rrrrlrbrererere rfl rfl ?_
      refine rS c5_rrrrlrbrerererel c5_rrrrlrbrerererer rfl ?_
      refine run_region rfl ?_
      simp only [sX, simprocAttr, -List.reduceReplicate]
      refine rF c5_rrrrlrbrerererert c5_rrrrlrbrerererere rfl rfl ?_
      refine rS c5_rrrrlrbrererererel c5_rrrrlrbrererererer rfl ?_
      refine rS c5_rrrrlrbrererererell c5_rrrrlrbrererererelr rfl ?_
      refine run_region rfl ?_
      simp only [sX, simprocAttr, -List.reduceReplicate]
      refine rF c5_rrrrlrbrererererelrt c5_rrrrlrbrererererelre rfl rfl ?_
      refine run_region rfl ?_
      simp only [sX, simprocAttr, -List.reduceReplicate]
      refine rF c5_rrrrlrbrererererert c5_rrrrlrbrererererere rfl rfl ?_
      refine rS c5_rrrrlrbrerererererel c5_rrrrlrbrerererererer rfl ?_
      refine run_region rfl ?_
      simp only [sX, simprocAttr, -List.reduceReplicate]
      refine rF c5_rrrrlrbrerererererert c5_rrrrlrbrerererererere rfl rfl ?_
      refine rS c5_rrrrlrbrererererererel c5_rrrrlrbrererererererer rfl ?_
      refine run_region rfl ?_
      simp only [sX, simprocAttr, -List.reduceReplicate]
      refine rT c5_rrrrlrbrererererererert c5_rrrrlrbrererererererere rfl rfl ?_
      refine rS c5_rrrrlrbrererererererertl c5_rrrrlrbrererererererertr rfl ?_
      refine run_region rfl ?_
      simp only [sX, simprocAttr, -List.reduceReplicate, g2]
      refine call_of (pick_ok rn 3 (by decide) (by decide) _ _) ?_
      rintro v H2 ⟨rfl, hh⟩
      subst hh
      rw [h3]
      simp only [sX, simprocAttr, -List.reduceReplicate, List.toList_toArray]
      refine run_ret rfl ?_
      (simp only [sP]; refine ⟨_, (by rw [resultsA_eq Try.results5]; simp only [sR, List.mapM_cons, List.mapM_nil, if_true, Nat.reduceAdd]; rfl), ?_⟩)
      exact gotT_leaf _ _ g01 0 S4.z d
    · (refine call_intro fun5 name5 body5 ?_; simp only [Try.ntmps5, List.map_cons, List.map_nil, List.length_cons, List.length_nil, Nat.zero_add, Nat.reduceAdd, Nat.reduceSub, List.replicate_succ, List.replicate_zero, List.cons_append, List.nil_append])
      refine rS c5_l c5_r rfl ?_
      refine run_region rfl ?_
      simp only [sX, simprocAttr, -List.reduceReplicate, hsl, List.toList_toArray]
      refine rS c5_rl c5_rr rfl ?_
      refine run_region rfl ?_
      simp only [sX, simprocAttr, -List.reduceReplicate, g2]
      refine call_of (pick_ok rk 12 (by decide) (by decide) _ _) ?_
      rintro v H2 ⟨rfl, hh⟩
      subst hh
      rw [hk]
      simp only [sX, simprocAttr, -List.reduceReplicate]
      refine rS c5_rrl c5_rrr rfl ?_
      refine run_region rfl ?_
      simp only [sX, simprocAttr, -List.reduceReplicate, exe_makeFunc, hf]
      refine rS c5_rrrl c5_rrrr rfl ?_
      refine rS c5_rrrll c5_rrrlr rfl ?_
      refine run_regionG rfl c5_rrrll_gs ?_
      simp only [sX, simprocAttr, -List.reduceReplicate, g3, e0]
      refine rF c5_rrrlrt c5_rrrlre rfl rfl ?_
      refine run_skip rfl ?_
      simp only [sP]
      refine rS c5_rrrrl c5_rrrrr rfl ?_
      refine rS c5_rrrrll c5_rrrrlr rfl ?_
      refine run_region rfl ?_
      simp only [sX, simprocAttr, -List.reduceReplicate]
      refine run_block (b := c5_rrrrlrb) rfl ?_
      refine rS c5_rrrrlrbl c5_rrrrlrbr rfl ?_
      refine rS c5_rrrrlrbll c5_rrrrlrblr rfl ?_
      refine run_region rfl ?_
      simp only [sX, simprocAttr, -List.reduceReplicate]
      refine rF c5_rrrrlrblrt c5_rrrrlrblre rfl rfl ?_
      refine run_region rfl ?_
      simp only [sX, simprocAttr, -List.reduceReplicate]
      refine rF c5_rrrrlrbrt c5_rrrrlrbre rfl rfl ?_
      refine rS c5_rrrrlrbrel c5_rrrrlrbrer rfl ?_
      refine rS c5_rrrrlrbrell c5_rrrrlrbrelr rfl ?_
      refine run_region rfl ?_
      simp only [sX, simprocAttr, -List.reduceReplicate]
      refine rF c5_rrrrlrbrelrt c5_rrrrlrbrelre rfl rfl ?_
      refine run_region rfl ?_
      simp only [sX, simprocAttr, -List.reduceReplicate]
      refine rF c5_rrrrlrbrert c5_rrrrlrbrere rfl rfl ?_
      refine rS c5_rrrrlrbrerel c5_rrrrlrbrerer rfl ?_
      refine run_region rfl ?_
      simp only [sX, simprocAttr, -List.reduceReplicate]
      refine rF c5_rrrrlrbrerert c5_rrrrlrbrerere rfl rfl ?_
      refine rS c5_rrrrlrbrererel c5_rrrrlrbrererer rfl ?_
      refine run_region rfl ?_
      simp only [sX, simprocAttr, -List.reduceReplicate]
      refine rF c5_rrrrlrbrererert c5_rrrrlrbrererere rfl rfl ?_
      refine rS c5_rrrrlrbrerererel c5_rrrrlrbrerererer rfl ?_
      refine run_region rfl ?_
      simp only [sX, simprocAttr, -List.reduceReplicate]
      refine rF c5_rrrrlrbrerererert c5_rrrrlrbrerererere rfl rfl ?_
      refine rS c5_rrrrlrbrererererel c5_rrrrlrbrererererer rfl ?_
      refine rS c5_rrrrlrbrererererell c5_rrrrlrbrererererelr rfl ?_
      refine run_region rfl ?_
      simp only [sX, simprocAttr, -List.reduceReplicate]
      refine rF c5_rrrrlrbrererererelrt c5_rrrrlrbrererererelre rfl rfl ?_
      refine run_region rfl ?_
      simp only [sX, simprocAttr, -List.reduceReplicate]
      refine rF c5_rrrrlrbrererererert c5_rrrrlrbrererererere rfl rfl ?_
      refine rS c5_rrrrlrbrerererererel c5_rrrrlrbrerererererer rfl ?_
      refine run_region rfl ?_
      simp only [sX, simprocAttr, -List.reduceReplicate]
      refine rF c5_rrrrlrbrerererererert c5_rrrrlrbrerererererere rfl rfl ?_
      refine rS c5_rrrrlrbrererererererel c5_rrrrlrbrererererererer rfl ?_
      refine run_region rfl ?_
      simp only [sX, simprocAttr, -List.reduceReplicate]
      refine rT c5_rrrrlrbrererererererert c5_rrrrlrbrererererererere rfl rfl ?_
      refine rS c5_rrrrlrbrererererererertl c5_rrrrlrbrererererererertr rfl ?_
      refine run_region rfl ?_
      simp only [sX, simprocAttr, -List.reduceReplicate, g2]
      refine call_of (pick_ok rn 3 (by decide) (by decide) _ _) ?_
      rintro v H2 ⟨rfl, hh⟩
      subst hh
      rw [h3]
      simp only [sX, simprocAttr, -List.reduceReplicate, List.toList_toArray]
      refine run_ret rfl ?_
      (simp only [sP]; refine ⟨_, (by rw [resultsA_eq Try.results5]; simp only [sR, List.mapM_cons, List.mapM_nil, if_true, Nat.reduceAdd]; rfl), ?_⟩)
      exact gotT_leaf _ _ g01 7 S4.z d
    · (refine call_intro fun5 name5 body5 ?_; simp only [Try.ntmps5, List.map_cons, List.map_nil, List.length_cons, List.length_nil, Nat.zero_add, Nat.reduceAdd, Nat.reduceSub, List.replicate_succ, List.replicate_zero, List.cons_append, List.nil_append])
      refine rS c5_l c5_r rfl ?_
      refine run_region rfl ?_
      simp only [sX, simprocAttr, -List.reduceReplicate, hsl, List.toList_toArray]
      refine rS c5_rl c5_rr rfl ?_
      refine run_region rfl ?_
      simp only [sX, simprocAttr, -List.reduceReplicate, g2]
      refine call_of (pick_ok rk 12 (by decide) (by decide) _ _) ?_
      rintro v H2 ⟨rfl, hh⟩
      subst hh
      rw [hk]
      simp only [sX, simprocAttr, -List.reduceReplicate]
      refine rS c5_rrl c5_rrr rfl ?_
      refine run_region rfl ?_
      simp only [sX, simprocAttr, -List.reduceReplicate, exe_makeFunc, hf]
      refine rS c5_rrrl c5_rrrr rfl ?_
      refine rS c5_rrrll c5_rrrlr rfl ?_
      refine run_regionG rfl c5_rrrll_gs ?_
      simp only [sX, simprocAttr, -List.reduceReplicate, g3, e0]
      refine rF c5_rrrlrt c5_rrrlre rfl rfl ?_
      refine run_skip rfl ?_
      simp only [sP]
      refine rS c5_rrrrl c5_rrrrr rfl ?_
      refine rS c5_rrrrll c5_rrrrlr rfl ?_
      refine run_region rfl ?_
      simp only [sX, simprocAttr, -List.reduceReplicate]
      refine run_block (b := c5_rrrrlrb) rfl ?_
      refine rS c5_rrrrlrbl c5_rrrrlrbr rfl ?_
      refine rS c5_rrrrlrbll c5_rrrrlrblr rfl ?_
      refine run_region rfl ?_
      simp only [sX, simprocAttr, -List.reduceReplicate]
      refine rF c5_rrrrlrblrt c5_rrrrlrblre rfl rfl ?_
      refine run_region rfl ?_
      simp only [sX, simprocAttr, -List.reduceReplicate]
      refine rF c5_rrrrlrbrt c5_rrrrlrbre rfl rfl ?_
      refine rS c5_rrrrlrbrel c5_rrrrlrbrer rfl ?_
      refine rS c5_rrrrlrbrell c5_rrrrlrbrelr rfl ?_
      refine run_region rfl ?_
      simp only [sX, simprocAttr, -List.reduceReplicate]
      refine rF c5_rrrrlrbrelrt c5_rrrrlrbrelre rfl rfl ?_
      refine run_region rfl ?_
      simp only [sX, simprocAttr, -List.reduceReplicate]
      refine rF c5_rrrrlrbrert c5_rrrrlrbrere rfl rfl ?_
      refine rS c5_rrrrlrbrerel c5_rrrrlrbrerer rfl ?_
      refine run_region rfl ?_
      simp only [sX, simprocAttr, -List.reduceReplicate]
      refine rF c5_rrrrlrbrerert c5_rrrrlrbrerere rfl rfl ?_
      refine rS c5_rrrrlrbrererel c5_rrrrlrbrererer rfl ?_
      refine run_region rfl ?_
      simp only [sX, simprocAttr, -List.reduceReplicate]
      refine rF c5_rrrrlrbrererert c5_rrrrlrbrererere rfl rfl ?_
      refine rS c5_rrrrlrbrerererel c5_rrrrlrbrerererer rfl ?_
      refine run_region rfl ?_
      simp only [sX, simprocAttr, -List.reduceReplicate]
      refine rF c5_rrrrlrbrerererert c5_rrrrlrbrerererere rfl rfl ?_
      refine rS c5_rrrrlrbrererererel c5_rrrrlrbrererererer rfl ?_
      refine rS c5_rrrrlrbrererererell c5_rrrrlrbrererererelr rfl ?_
      refine run_region rfl ?_
      simp only [sX, simprocAttr, -List.reduceReplicate]
      refine rF c5_rrrrlrbrererererelrt c5_rrrrlrbrererererelre rfl rfl ?_
      refine run_region rfl ?_
      simp only [sX, simprocAttr, -List.reduceReplicate]
      refine rF c5_rrrrlrbrererererert c5_rrrrlrbrererererere rfl rfl ?_
      refine rS c5_rrrrlrbrerererererel c5_rrrrlrbrerererererer rfl ?_
      refine run_region rfl ?_
      simp only [sX, simprocAttr, -List.reduceReplicate]
      refine rF c5_rrrrlrbrerererererert c5_rrrrlrbrerererererere rfl rfl ?_
      refine rS c5_rrrrlrbrererererererel c5_rrrrlrbrererererererer rfl ?_
      refine run_region rfl ?_
      simp only [sX, simprocAttr, -List.reduceReplicate]
      refine rT c5_rrrrlrbrererererererert c5_rrrrlrbrererererererere rfl rfl ?_
      refine rS c5_rrrrlrbrererererererertl c5_rrrrlrbrererererererertr rfl ?_
      refine run_region rfl ?_
      simp only [sX, simprocAttr, -List.reduceReplicate, g2]
      refine call_of (pick_ok rn 3 (by decide) (by decide) _ _) ?_
      rintro v H2 ⟨rfl, hh⟩
      subst hh
      rw [h3]
      simp only [sX, simprocAttr, -List.reduceReplicate, List.toList_toArray]
      refine run_ret rfl ?_
      (simp only [sP]; refine ⟨_, (by rw [resultsA_eq Try.results5]; simp only [sR, List.mapM_cons, List.mapM_nil, if_true, Nat.reduceAdd]; rfl), ?_⟩)
      exact gotT_leaf _ _ g01 8 S4.z d
  · (refine call_intro fun5 name5 body5 ?_; simp only [Try.ntmps5, List.map_cons, List.map_nil, List.length_cons, List.length_nil, Nat.zero_add, Nat.reduceAdd, Nat.reduceSub, List.replicate_succ, List.replicate_zero, List.cons_append, List.nil_append])
    refine rS c5_l c5_r rfl ?_
    refine run_region rfl ?_
    simp only [sX, simprocAttr, -List.reduceReplicate, hsl, List.toList_toArray]
    refine rS c5_rl c5_rr rfl ?_
    refine run_region rfl ?_
    simp only [sX, simprocAttr, -List.reduceReplicate, g2]
    refine call_of (pick_ok rk 12 (by decide) (by decide) _ _) ?_
    rintro v H2 ⟨rfl, hh⟩
    subst hh
    rw [hk]
    simp only [sX, simprocAttr, -List.reduceReplicate]
    refine rS c5_rrl c5_rrr rfl ?_
    refine run_region rfl ?_
    simp only [sX, simprocAttr, -List.reduceReplicate, exe_makeFunc, hf]
    refine rS c5_rrrl c5_rrrr rfl ?_
    refine rS c5_rrrll c5_rrrlr rfl ?_
    refine run_regionG rfl c5_rrrll_gs ?_
    simp only [sX, simprocAttr, -List.reduceReplicate, g3, e0]
    refine rF c5_rrrlrt c5_rrrlre rfl rfl ?_
    refine run_skip rfl ?_
    simp only [sP]
    refine rS c5_rrrrl c5_rrrrr rfl ?_
    refine rS c5_rrrrll c5_rrrrlr rfl ?_
    refine run_region rfl ?_
    simp only [sX, simprocAttr, -List.reduceReplicate]
    refine run_block (b := c5_rrrrlrb) rfl ?_
    refine rS c5_rrrrlrbl c5_rrrrlrbr rfl ?_
    refine rS c5_rrrrlrbll c5_rrrrlrblr rfl ?_
    refine run_region rfl ?_
    simp only [sX, simprocAttr, -List.reduceReplicate]
    refine rF c5_rrrrlrblrt c5_rrrrlrblre rfl rfl ?_
    refine run_region rfl ?_
    simp only [sX, simprocAttr, -List.reduceReplicate]
    refine rF c5_rrrrlrbrt c5_rrrrlrbre rfl rfl ?_
    refine rS c5_rrrrlrbrel c5_rrrrlrbrer rfl ?_
    refine rS c5_rrrrlrbrell c5_rrrrlrbrelr rfl ?_
    refine run_region rfl ?_
    simp only [sX, simprocAttr, -List.reduceReplicate]
    refine rF c5_rrrrlrbrelrt c5_rrrrlrbrelre rfl rfl ?_
    refine run_region rfl ?_
    simp only [sX, simprocAttr, -List.reduceReplicate]
    refine rF c5_rrrrlrbrert c5_rrrrlrbrere rfl rfl ?_
    refine rS c5_rrrrlrbrerel c5_rrrrlrbrerer rfl ?_
    refine run_region rfl ?_
    simp only [sX, simprocAttr, -List.reduceReplicate]
    refine rF c5_rrrrlrbrerert c5_rrrrlrbrerere rfl rfl ?_
    refine rS c5_rrrrlrbrererel c5_rrrrlrbrererer rfl ?_
    refine run_region rfl ?_
    simp only [sX, simprocAttr, -List.reduceReplicate]
    refine rF c5_rrrrlrbrererert c5_rrrrlrbrererere rfl rfl ?_
    refine rS c5_rrrrlrbrerererel c5_rrrrlrbrerererer rfl ?_
    refine run_region rfl ?_
    simp only [sX, simprocAttr, -List.reduceReplicate]
    refine rF c5_rrrrlrbrerererert c5_rrrrlrbrerererere rfl rfl ?_
    refine rS c5_rrrrlrbrererererel c5_rrrrlrbrererererer rfl ?_
    refine rS c5_rrrrlrbrererererell c5_rrrrlrbrererererelr rfl ?_
    refine run_region rfl ?_
    simp only [sX, simprocAttr, -List.reduceReplicate]
    refine rF c5_rrrrlrbrererererelrt c5_rrrrlrbrererererelre rfl rfl ?_
    refine run_region rfl ?_
    simp only [sX, simprocAttr, -List.reduceReplicate]
    refine rF c5_rrrrlrbrererererert c5_rrrrlrbrererererere rfl rfl ?_
    refine rS c5_rrrrlrbrerererererel c5_rrrrlrbrerererererer rfl ?_
    refine run_region rfl ?_
    simp only [sX, simprocAttr, -List.reduceReplicate]
    refine rF c5_rrrrlrbrerererererert c5_rrrrlrbrerererererere rfl rfl ?_
    refine rS c5_rrrrlrbrererererererel c5_rrrrlrbrererererererer rfl ?_
    refine run_region rfl ?_
    simp only [sX, simprocAttr, -List.reduceReplicate]
    refine rF c5_rrrrlrbrererererererert c5_rrrrlrbrererererererere rfl rfl ?_
    refine run_skip rfl ?_
    simp only [sP]
    refine rS c5_rrrrrl c5_rrrrrr rfl ?_
    refine run_region rfl ?_
    simp only [sX, simprocAttr, -List.reduceReplicate, g2]
    refine call_of (pick_ok rn 2 (by decide) (by decide) _ _) ?_
    rintro v H2 ⟨rfl, hh⟩
    subst hh
    simp only [sX, simprocAttr, -List.reduceReplicate, hx2]
    refine call_of (hs2 _ _) ?_
    rintro v H2 ⟨rfl, hh⟩
    subst hh
    unfold reV
    simp only [sX, simprocAttr, -List.reduceReplicate, List.toList_toArray]
    refine run_ret rfl ?_
    (simp only [sP]; refine ⟨_, (by rw [resultsA_eq Try.results5]; simp only [sR, List.mapM_cons, List.mapM_nil, if_true, Nat.reduceAdd]; rfl), ?_⟩)
    exact gotT_leaf _ _ g01 1 s2 d
  · (refine call_intro fun5 name5 body5 ?_; simp only [Try.ntmps5, List.map_cons, List.map_nil, List.length_cons, List.length_nil, Nat.zero_add, Nat.reduceAdd, Nat.reduceSub, List.replicate_succ, List.replicate_zero, List.cons_append, List.nil_append])
    refine rS c5_l c5_r rfl ?_
    refine run_region rfl ?_
    simp only [sX, simprocAttr, -List.reduceReplicate, hsl, List.toList_toArray]
    refine rS c5_rl c5_rr rfl ?_
    refine run_region rfl ?_
    simp only [sX, simprocAttr, -List.reduceReplicate, g2]
    refine call_of (pick_ok rk 12 (by decide) (by decide) _ _) ?_
    rintro v H2 ⟨rfl, hh⟩
    subst hh
    rw [hk]
    simp only [sX, simprocAttr, -List.reduceReplicate]
    refine rS c5_rrl c5_rrr rfl ?_
    refine run_region rfl ?_
    simp only [sX, simprocAttr, -List.reduceReplicate, exe_makeFunc, hf]
    refine rS c5_rrrl c5_rrrr rfl ?_
    refine rS c5_rrrll c5_rrrlr rfl ?_
    refine run_regionG rfl c5_rrrll_gs ?_
    simp only [sX, simprocAttr, -List.reduceReplicate, g3, e0]
    refine rF c5_rrrlrt c5_rrrlre rfl rfl ?_
    refine run_skip rfl ?_
    simp only [sP]
    refine rS c5_rrrrl c5_rrrrr rfl ?_
    refine rS c5_rrrrll c5_rrrrlr rfl ?_
    refine run_region rfl ?_
    simp only [sX, simprocAttr, -List.reduceReplicate]
    refine run_block (b := c5_rrrrlrb) rfl ?_
    refine rS c5_rrrrlrbl c5_rrrrlrbr rfl ?_
    refine rS c5_rrrrlrbll c5_rrrrlrblr rfl ?_
    refine run_region rfl ?_
    simp only [sX, simprocAttr, -List.reduceReplicate]
    refine rT c5_rrrrlrblrt c5_rrrrlrblre rfl rfl ?_
    refine run_skip rfl ?_
    simp only [sP]
    refine rT c5_rrrrlrbrt c5_rrrrlrbre rfl rfl ?_
    refine rS c5_rrrrlrbrtl c5_rrrrlrbrtr rfl ?_
    refine run_region rfl ?_
    simp only [sX, simprocAttr, -List.reduceReplicate]
    refine call_of (hkid _ _ (Gr.refl _) 0 (by decide)) ?_
    rintro v H1 ⟨T1, p1, n1, rfl, hT1, hg1, hh1⟩
    unfold reV
    simp only [sX, simprocAttr, -List.reduceReplicate]
    refine call_of (hkid _ _ hg1 1 (by decide)) ?_
    rintro v H2 ⟨T2, p2, n2, rfl, hT2, hg2, hh2⟩
    unfold reV
    simp only [sX, simprocAttr, -List.reduceReplicate, List.toList_toArray]
    refine run_ret rfl ?_
    (simp only [sP]; refine ⟨_, (by rw [resultsA_eq Try.results5]; simp only [sR, List.mapM_cons, List.mapM_nil, if_true, Nat.reduceAdd]; rfl), ?_⟩)
    exact got2 H _ H1 H2 g01 2 d hT1 hg1 hh1 hT2 hg2 hh2
  · (refine call_intro fun5 name5 body5 ?_; simp only [Try.ntmps5, List.map_cons, List.map_nil, List.length_cons, List.length_nil, Nat.zero_add, Nat.reduceAdd, Nat.reduceSub, List.replicate_succ, List.replicate_zero, List.cons_append, List.nil_append])
    refine rS c5_l c5_r rfl ?_
    refine run_region rfl ?_
    simp only [sX, simprocAttr, -List.reduceReplicate, hsl, List.toList_toArray]
    refine rS c5_rl c5_rr rfl ?_
    refine run_region rfl ?_
    simp only [sX, simprocAttr, -List.reduceReplicate, g2]
    refine call_of (pick_ok rk 12 (by decide) (by decide) _ _) ?_
    rintro v H2 ⟨rfl, hh⟩
    subst hh
    rw [hk]
    simp only [sX, simprocAttr, -List.reduceReplicate]
    refine rS c5_rrl c5_rrr rfl ?_
    refine run_region rfl ?_
    simp only [sX, simprocAttr, -List.reduceReplicate, exe_makeFunc, hf]
    refine rS c5_rrrl c5_rrrr rfl ?_
    refine rS c5_rrrll c5_rrrlr rfl ?_
    refine run_regionG rfl c5_rrrll_gs ?_
    simp only [sX, simprocAttr, -List.reduceReplicate, g3, e0]
    refine rF c5_rrrlrt c5_rrrlre rfl rfl ?_
    refine run_skip rfl ?_
    simp only [sP]
    refine rS c5_rrrrl c5_rrrrr rfl ?_
    refine rS c5_rrrrll c5_rrrrlr rfl ?_
    refine run_region rfl ?_
    simp only [sX, simprocAttr, -List.reduceReplicate]
    refine run_block (b := c5_rrrrlrb) rfl ?_
    refine rS c5_rrrrlrbl c5_rrrrlrbr rfl ?_
    refine rS c5_rrrrlrbll c5_rrrrlrblr rfl ?_
    refine run_region rfl ?_
    simp only [sX, simprocAttr, -List.reduceReplicate]
    refine rF c5_rrrrlrblrt c5_rrrrlrblre rfl rfl ?_
    refine run_region rfl ?_
    simp only [sX, simprocAttr, -List.reduceReplicate]
    refine rT c5_rrrrlrbrt c5_rrrrlrbre rfl rfl ?_
    refine rS c5_rrrrlrbrtl c5_rrrrlrbrtr rfl ?_
    refine run_region rfl ?_
    simp only [sX, simprocAttr, -List.reduceReplicate]
    refine call_of (hkid _ _ (Gr.refl _) 0 (by decide)) ?_
    rintro v H1 ⟨T1, p1, n1, rfl, hT1, hg1, hh1⟩
    unfold reV
    simp only [sX, simprocAttr, -List.reduceReplicate]
    refine call_of (hkid _ _ hg1 1 (by decide)) ?_
    rintro v H2 ⟨T2, p2, n2, rfl, hT2, hg2, hh2⟩
    unfold reV
    simp only [sX, simprocAttr, -List.reduceReplicate, List.toList_toArray]
    refine run_ret rfl ?_
    (simp only [sP]; refine ⟨_, (by rw [resultsA_eq Try.results5]; simp only [sR, List.mapM_cons, List.mapM_nil, if_true, Nat.reduceAdd]; rfl), ?_⟩)
    exact got2 H _ H1 H2 g01 2 d hT1 hg1 hh1 hT2 hg2 hh2
  · (refine call_intro fun5 name5 body5 ?_; simp only [Try.ntmps5, List.map_cons, List.map_nil, List.length_cons, List.length_nil, Nat.zero_add, Nat.reduceAdd, Nat.reduceSub, List.replicate_succ, List.replicate_zero, List.cons_append, List.nil_append])
    refine rS c5_l c5_r rfl ?_
    refine run_region rfl ?_
    simp only [sX, simprocAttr, -List.reduceReplicate, hsl, List.toList_toArray]
    refine rS c5_rl c5_rr rfl ?_
    refine run_region rfl ?_
    simp only [sX, simprocAttr, -List.reduceReplicate, g2]
    refine call_of (pick_ok rk 12 (by decide) (by decide) _ _) ?_
    rintro v H2 ⟨rfl, hh⟩
    subst hh
    rw [hk]
    simp only [sX, simprocAttr, -List.reduceReplicate]
    refine rS c5_rrl c5_rrr rfl ?_
    refine run_region rfl ?_
    simp only [sX, simprocAttr, -List.reduceReplicate, exe_makeFunc, hf]
    refine rS c5_rrrl c5_rrrr rfl ?_
    refine rS c5_rrrll c5_rrrlr rfl ?_
    refine run_regionG rfl c5_rrrll_gs ?_
    simp only [sX, simprocAttr, -List.reduceReplicate, g3, e0]
    refine rF c5_rrrlrt c5_rrrlre rfl rfl ?_
    refine run_skip rfl ?_
    simp only [sP]
    refine rS c5_rrrrl c5_rrrrr rfl ?_
    refine rS c5_rrrrll c5_rrrrlr rfl ?_
    refine run_region rfl ?_
    simp only [sX, simprocAttr, -List.reduceReplicate]
    refine run_block (b := c5_rrrrlrb) rfl ?_
    refine rS c5_rrrrlrbl c5_rrrrlrbr rfl ?_
    refine rS c5_rrrrlrbll c5_rrrrlrblr rfl ?_
    refine run_region rfl ?_
    simp only [sX, simprocAttr, -List.reduceReplicate]
    refine rF c5_rrrrlrblrt c5_rrrrlrblre rfl rfl ?_
    refine run_region rfl ?_
    simp only [sX, simprocAttr, -List.reduceReplicate]
    refine rF c5_rrrrlrbrt c5_rrrrlrbre rfl rfl ?_
    refine rS c5_rrrrlrbrel c5_rrrrlrbrer rfl ?_
    refine rS c5_rrrrlrbrell c5_rrrrlrbrelr rfl ?_
    refine run_region rfl ?_
    simp only [sX, simprocAttr, -List.reduceReplicate]
    refine rT c5_rrrrlrbrelrt c5_rrrrlrbrelre rfl rfl ?_
    refine run_skip rfl ?_
    simp only [sP]
    refine rT c5_rrrrlrbrert c5_rrrrlrbrere rfl rfl ?_
    refine rS c5_rrrrlrbrertl c5_rrrrlrbrertr rfl ?_
    refine run_region rfl ?_
    simp only [sX, simprocAttr, -List.reduceReplicate]
    refine call_of (hkid _ _ (Gr.refl _) 0 (by decide)) ?_
    rintro v H1 ⟨T1, p1, n1, rfl, hT1, hg1, hh1⟩
    unfold reV
    simp only [sX, simprocAttr, -List.reduceReplicate]
    refine call_of (hkid _ _ hg1 1 (by decide)) ?_
    rintro v H2 ⟨T2, p2, n2, rfl, hT2, hg2, hh2⟩
    unfold reV
    simp only [sX, simprocAttr, -List.reduceReplicate, List.toList_toArray]
    refine run_ret rfl ?_
    (simp only [sP]; refine ⟨_, (by rw [resultsA_eq Try.results5]; simp only [sR, List.mapM_cons, List.mapM_nil, if_true, Nat.reduceAdd]; rfl), ?_⟩)
    exact got2 H _ H1 H2 g01 3 d hT1 hg1 hh1 hT2 hg2 hh2
  · (refine call_intro fun5 name5 body5 ?_; simp only [Try.ntmps5, List.map_cons, List.map_nil, List.length_cons, List.length_nil, Nat.zero_add, Nat.reduceAdd, Nat.reduceSub, List.replicate_succ, List.replicate_zero, List.cons_append, List.nil_append])
    refine rS c5_l c5_r rfl ?_
    refine run_region rfl ?_
    simp only [sX, simprocAttr, -List.reduceReplicate, hsl, List.toList_toArray]
    refine rS c5_rl c5_rr rfl ?_
    refine run_region rfl ?_
    simp only [sX, simprocAttr, -List.reduceReplicate, g2]
    refine call_of (pick_ok rk 12 (by decide) (by decide) _ _) ?_
    rintro v H2 ⟨rfl, hh⟩
    subst hh
    rw [hk]
    simp only [sX, simprocAttr, -List.reduceReplicate]
    refine rS c5_rrl c5_rrr rfl ?_
    refine run_region rfl ?_
    simp only [sX, simprocAttr, -List.reduceReplicate, exe_makeFunc, hf]
    refine rS c5_rrrl c5_rrrr rfl ?_
    refine rS c5_rrrll c5_rrrlr rfl ?_
    refine run_regionG rfl c5_rrrll_gs ?_
    simp only [sX, simprocAttr, -List.reduceReplicate, g3, e0]
    refine rF c5_rrrlrt c5_rrrlre rfl rfl ?_
    refine run_skip rfl ?_
    simp only [sP]
    refine rS c5_rrrrl c5_rrrrr rfl ?_
    refine rS c5_rrrrll c5_rrrrlr rfl ?_
    refine run_region rfl ?_
    simp only [sX, simprocAttr, -List.reduceReplicate]
    refine run_block (b := c5_rrrrlrb) rfl ?_
    refine rS c5_rrrrlrbl c5_rrrrlrbr rfl ?_
    refine rS c5_rrrrlrbll c5_rrrrlrblr rfl ?_
    refine run_region rfl ?_
    simp only [sX, simprocAttr, -List.reduceReplicate]
    refine rF c5_rrrrlrblrt c5_rrrrlrblre rfl rfl ?_
    refine run_region rfl ?_
    simp only [sX, simprocAttr, -List.reduceReplicate]
    refine rF c5_rrrrlrbrt c5_rrrrlrbre rfl rfl ?_
    refine rS c5_rrrrlrbrel c5_rrrrlrbrer rfl ?_
    refine rS c5_rrrrlrbrell c5_rrrrlrbrelr rfl ?_
    refine run_region rfl ?_
    simp only [sX, simprocAttr, -List.reduceReplicate]
    refine rF c5_rrrrlrbrelrt c5_rrrrlrbrelre rfl rfl ?_
    refine run_region rfl ?_
    simp only [sX, simprocAttr, -List.reduceReplicate]
    refine rT c5_rrrrlrbrert c5_rrrrlrbrere rfl rfl ?_
    refine rS c5_rrrrlrbrertl c5_rrrrlrbrertr rfl ?_
    refine run_region rfl ?_
    simp only [sX, simprocAttr, -List.reduceReplicate]
    refine call_of (hkid _ _ (Gr.refl _) 0 (by decide)) ?_
    rintro v H1 ⟨T1, p1, n1, rfl, hT1, hg1, hh1⟩
    unfold reV
    simp only [sX, simprocAttr, -List.reduceReplicate]
    refine call_of (hkid _ _ hg1 1 (by decide)) ?_
    rintro v H2 ⟨T2, p2, n2, rfl, hT2, hg2, hh2⟩
    unfold reV
    simp only [sX, simprocAttr, -List.reduceReplicate, List.toList_toArray]
    refine run_ret rfl ?_
    (simp only [sP]; refine ⟨_, (by rw [resultsA_eq Try.results5]; simp only [sR, List.mapM_cons, List.mapM_nil, if_true, Nat.reduceAdd]; rfl), ?_⟩)
    exact got2 H _ H1 H2 g01 3 d hT1 hg1 hh1 hT2 hg2 hh2
  · (refine call_intro fun5 name5 body5 ?_; simp only [Try.ntmps5, List.map_cons, List.map_nil, List.length_cons, List.length_nil, Nat.zero_add, Nat.reduceAdd, Nat.reduceSub, List.replicate_succ, List.replicate_zero, List.cons_append, List.nil_append])
    refine rS c5_l c5_r rfl ?_
    refine run_region rfl ?_
    simp only [sX, simprocAttr, -List.reduceReplicate, hsl, List.toList_toArray]
    refine rS c5_rl c5_rr rfl ?_
    refine run_region rfl ?_
    simp only [sX, simprocAttr, -List.reduceReplicate, g2]
    refine call_of (pick_ok rk 12 (by decide) (by decide) _ _) ?_
    rintro v H2 ⟨rfl, hh⟩
    subst hh
    rw [hk]
    simp only [sX, simprocAttr, -List.reduceReplicate]
    refine rS c5_rrl c5_rrr rfl ?_
    refine run_region rfl ?_
    simp only [sX, simprocAttr, -List.reduceReplicate, exe_makeFunc, hf]
    refine rS c5_rrrl c5_rrrr rfl ?_
    refine rS c5_rrrll c5_rrrlr rfl ?_
    refine run_regionG rfl c5_rrrll_gs ?_
    simp only [sX, simprocAttr, -List.reduceReplicate, g3, e0]
    refine rF c5_rrrlrt c5_rrrlre rfl rfl ?_
    refine run_skip rfl ?_
    simp only [sP]
    refine rS c5_rrrrl c5_rrrrr rfl ?_
    refine rS c5_rrrrll c5_rrrrlr rfl ?_
    refine run_region rfl ?_
    simp only [sX, simprocAttr, -List.reduceReplicate]
    refine run_block (b := c5_rrrrlrb) rfl ?_
    refine rS c5_rrrrlrbl c5_rrrrlrbr rfl ?_
    refine rS c5_rrrrlrbll c5_rrrrlrblr rfl ?_
    refine run_region rfl ?_
    simp only [sX, simprocAttr, -List.reduceReplicate]
    refine rF c5_rrrrlrblrt c5_rrrrlrblre rfl rfl ?_
    refine run_region rfl ?_
    simp only [sX, simprocAttr, -List.reduceReplicate]
    refine rF c5_rrrrlrbrt c5_rrrrlrbre rfl rfl ?_
    refine rS c5_rrrrlrbrel c5_rrrrlrbrer rfl ?_
    refine rS c5_rrrrlrbrell c5_rrrrlrbrelr rfl ?_
    refine run_region rfl ?_
    simp only [sX, simprocAttr, -List.reduceReplicate]
    refine rF c5_rrrrlrbrelrt c5_rrrrlrbrelre rfl rfl ?_
    refine run_region rfl ?_
    simp only [sX, simprocAttr, -List.reduceReplicate]
    refine rF c5_rrrrlrbrert c5_rrrrlrbrere rfl rfl ?_
    refine rS c5_rrrrlrbrerel c5_rrrrlrbrerer rfl ?_
    refine run_region rfl ?_
    simp only [sX, simprocAttr, -List.reduceReplicate]
    refine rT c5_rrrrlrbrerert c5_rrrrlrbrerere rfl rfl ?_
    refine rS c5_rrrrlrbrerertl c5_rrrrlrbrerertr rfl ?_
    refine run_region rfl ?_
    simp only [sX, simprocAttr, -List.reduceReplicate]
    refine call_of (hkid _ _ (Gr.refl _) 0 (by decide)) ?_
    rintro v H1 ⟨T1, p1, n1, rfl, hT1, hg1, hh1⟩
    unfold reV
    simp only [sX, simprocAttr, -List.reduceReplicate, List.toList_toArray]
    refine run_ret rfl ?_
    (simp only [sP]; refine ⟨_, (by rw [resultsA_eq Try.results5]; simp only [sR, List.mapM_cons, List.mapM_nil, if_true, Nat.reduceAdd]; rfl), ?_⟩)
    exact got1 H _ H1 g01 4 d hT1 hg1 hh1
  · (refine call_intro fun5 name5 body5 ?_; simp only [Try.ntmps5, List.map_cons, List.map_nil, List.length_cons, List.length_nil, Nat.zero_add, Nat.reduceAdd, Nat.reduceSub, List.replicate_succ, List.replicate_zero, List.cons_append, List.nil_append])
    refine rS c5_l c5_r rfl ?_
    refine run_region rfl ?_
    simp only [sX, simprocAttr, -List.reduceReplicate, hsl, List.toList_toArray]
    refine rS c5_rl c5_rr rfl ?_
    refine run_region rfl ?_
    simp only [sX, simprocAttr, -List.reduceReplicate, g2]
    refine call_of (pick_ok rk 12 (by decide) (by decide) _ _) ?_
    rintro v H2 ⟨rfl, hh⟩
    subst hh
    rw [hk]
    simp only [sX, simprocAttr, -List.reduceReplicate]
    refine rS c5_rrl c5_rrr rfl ?_
    refine run_region rfl ?_
    simp only [sX, simprocAttr, -List.reduceReplicate, exe_makeFunc, hf]
    refine rS c5_rrrl c5_rrrr rfl ?_
    refine rS c5_rrrll c5_rrrlr rfl ?_
    refine run_regionG rfl c5_rrrll_gs ?_
    simp only [sX, simprocAttr, -List.reduceReplicate, g3, e0]
    refine rF c5_rrrlrt c5_rrrlre rfl rfl ?_
    refine run_skip rfl ?_
    simp only [sP]
    refine rS c5_rrrrl c5_rrrrr rfl ?_
    refine rS c5_rrrrll c5_rrrrlr rfl ?_
    refine run_region rfl ?_
    simp only [sX, simprocAttr, -List.reduceReplicate]
    refine run_block (b := c5_rrrrlrb) rfl ?_
    refine rS c5_rrrrlrbl c5_rrrrlrbr rfl ?_
    refine rS c5_rrrrlrbll c5_rrrrlrblr rfl ?_
    refine run_region rfl ?_
    simp only [sX, simprocAttr, -List.reduceReplicate]
    refine rF c5_rrrrlrblrt c5_rrrrlrblre rfl rfl ?_
    refine run_region rfl ?_
    simp only [sX, simprocAttr, -List.reduceReplicate]
    refine rF c5_rrrrlrbrt c5_rrrrlrbre rfl rfl ?_
    refine rS c5_rrrrlrbrel c5_rrrrlrbrer rfl ?_
    refine rS c5_rrrrlrbrell c5_rrrrlrbrelr rfl ?_
    refine run_region rfl ?_
    simp only [sX, simprocAttr, -List.reduceReplicate]
    refine rF c5_rrrrlrbrelrt c5_rrrrlrbrelre rfl rfl ?_
    refine run_region rfl ?_
    simp only [sX, simprocAttr, -List.reduceReplicate]
    refine rF c5_rrrrlrbrert c5_rrrrlrbrere rfl rfl ?_
    refine rS c5_rrrrlrbrerel c5_rrrrlrbrerer rfl ?_
    refine run_region rfl ?_
    simp only [sX, simprocAttr, -List.reduceReplicate]
    refine rF c5_rrrrlrbrerert c5_rrrrlrbrerere rfl rfl ?_
    refine rS c5_rrrrlrbrererel c5_rrrrlrbrererer rfl ?_
    refine run_region rfl ?_
    simp only [sX, simprocAttr, -List.reduceReplicate]
    refine rT c5_rrrrlrbrererert c5_rrrrlrbrererere rfl rfl ?_
    refine rS c5_rrrrlrbrererertl c5_rrrrlrbrererertr rfl ?_
    refine run_region rfl ?_
    simp only [sX, simprocAttr, -List.reduceReplicate]
    refine call_of (hkid _ _ (Gr.refl _) 0 (by decide)) ?_
    rintro v H1 ⟨T1, p1, n1, rfl, hT1, hg1, hh1⟩
    unfold reV
    simp only [sX, simprocAttr, -List.reduceReplicate, List.toList_toArray]
    refine run_ret rfl ?_
    (simp only [sP]; refine ⟨_, (by rw [resultsA_eq Try.results5]; simp only [sR, List.mapM_cons, List.mapM_nil, if_true, Nat.reduceAdd]; rfl), ?_⟩)
    exact got1 H _ H1 g01 5 d hT1 hg1 hh1
  · (refine call_intro fun5 name5 body5 ?_; simp only [Try.ntmps5, List.map_cons, List.map_nil, List.length_cons, List.length_nil, Nat.zero_add, Nat.reduceAdd, Nat.reduceSub, List.replicate_succ, List.replicate_zero, List.cons_append, List.nil_append])
    refine rS c5_l c5_r rfl ?_
    refine run_region rfl ?_
    simp only [sX, simprocAttr, -List.reduceReplicate, hsl, List.toList_toArray]
    refine rS c5_rl c5_rr rfl ?_
    refine run_region rfl ?_
    simp only [sX, simprocAttr, -List.reduceReplicate, g2]
    refine call_of (pick_ok rk 12 (by decide) (by decide) _ _) ?_
    rintro v H2 ⟨rfl, hh⟩
    subst hh
    rw [hk]
    simp only [sX, simprocAttr, -List.reduceReplicate]
    refine rS c5_rrl c5_rrr rfl ?_
    refine run_region rfl ?_
    simp only [sX, simprocAttr, -List.reduceReplicate, exe_makeFunc, hf]
    refine rS c5_rrrl c5_rrrr rfl ?_
    refine rS c5_rrrll c5_rrrlr rfl ?_
    refine run_regionG rfl c5_rrrll_gs ?_
    simp only [sX, simprocAttr, -List.reduceReplicate, g3, e0]
    refine rF c5_rrrlrt c5_rrrlre rfl rfl ?_
    refine run_skip rfl ?_
    simp only [sP]
    refine rS c5_rrrrl c5_rrrrr rfl ?_
    refine rS c5_rrrrll c5_rrrrlr rfl ?_
    refine run_region rfl ?_
    simp only [sX, simprocAttr, -List.reduceReplicate]
    refine run_block (b := c5_rrrrlrb) rfl ?_
    refine rS c5_rrrrlrbl c5_rrrrlrbr rfl ?_
    refine rS c5_rrrrlrbll c5_rrrrlrblr rfl ?_
    refine run_region rfl ?_
    simp only [sX, simprocAttr, -List.reduceReplicate]
    refine rF c5_rrrrlrblrt c5_rrrrlrblre rfl rfl ?_
    refine run_region rfl ?_
    simp only [sX, simprocAttr, -List.reduceReplicate]
    refine rF c5_rrrrlrbrt c5_rrrrlrbre rfl rfl ?_
    refine rS c5_rrrrlrbrel c5_rrrrlrbrer rfl ?_
    refine rS c5_rrrrlrbrell c5_rrrrlrbrelr rfl ?_
    refine run_region rfl ?_
    simp only [sX, simprocAttr, -List.reduceReplicate]
    refine rF c5_rrrrlrbrelrt c5_rrrrlrbrelre rfl rfl ?_
    refine run_region rfl ?_
    simp only [sX, simprocAttr, -List.reduceReplicate]
    refine rF c5_rrrrlrbrert c5_rrrrlrbrere rfl rfl ?_
    refine rS c5_rrrrlrbrerel c5_rrrrlrbrerer rfl ?_
    refine run_region rfl ?_
    simp only [sX, simprocAttr, -List.reduceReplicate]
    refine rF c5_rrrrlrbrerert c5_rrrrlrbrerere rfl rfl ?_
    refine rS c5_rrrrlrbrererel c5_rrrrlrbrererer rfl ?_
    refine run_region rfl ?_
    simp only [sX, simprocAttr, -List.reduceReplicate]
    refine rF c5_rrrrlrbrererert c5_rrrrlrbrererere rfl rfl ?_
    refine rS c5_rrrrlrbrerererel c5_rrrrlrbrerererer rfl ?_
    refine run_region rfl ?_
    simp only [sX, simprocAttr, -List.reduceReplicate]
    refine rT c5_rrrrlrbrerererert c5_rrrrlrbrerererere rfl rfl ?_
    refine rS c5_rrrrlrbrerererertl c5_rrrrlrbrerererertr rfl ?_
    refine run_region rfl ?_
    simp only [sX, simprocAttr, -List.reduceReplicate]
    refine call_of (hkid _ _ (Gr.refl _) 0 (by decide)) ?_
    rintro v H1 ⟨T1, p1, n1, rfl, hT1, hg1, hh1⟩
    unfold reV
    simp only [sX, simprocAttr, -List.reduceReplicate, List.toList_toArray]
    refine run_ret rfl ?_
    (simp only [sP]; refine ⟨_, (by rw [resultsA_eq Try.results5]; simp only [sR, List.mapM_cons, List.mapM_nil, if_true, Nat.reduceAdd]; rfl), ?_⟩)
    exact got1 H _ H1 g01 6 d hT1 hg1 hh1
end Go.Proofs.Ytmgofjgfmcmceaa
end
section
namespace Go.Proofs.Ytmgofjgfmcmceaa
open Go.RowKit
set_option maxRecDepth 4000
set_option maxHeartbeats 4000000

theorem re_zero (d : Nat) (hd0 : d = 0) (hd : d ≤ 100) : RePost d := by
  intro r cs lim H hr
  have hform : ∃ rk rn sl, cs = [.int .i64 rk, .int .i64 rn, sl] ∧ isCell sl = true := by
    cases hr with
    | nil k n c => exact ⟨k, n, _, rfl, rfl⟩
    | cons k n kids b off c wr cells hb hl hm hk => exact ⟨k, n, _, rfl, rfl⟩
  obtain ⟨rk, rn, sl, rfl, hsl⟩ := hform
  have g01 : Gr H (H ++ [some ⟨true, 0, [.int .i64 rk, .int .i64 rn, sl]⟩] ++ [some ⟨true, 0, [.int .i64 (d : Int)]⟩]) := (Gr.snoc _ _).trans (Gr.snoc _ _)
  have g2 : getO (H ++ [some ⟨true, 0, [.int .i64 rk, .int .i64 rn, sl]⟩] ++ [some ⟨true, 0, [.int .i64 (d : Int)]⟩]) H.length = some ⟨true, 0, [.int .i64 rk, .int .i64 rn, sl]⟩ := by rw [getO_snoc (by rw [len_snoc]; omega)]; exact getO_append_new
  have g3 : getO (H ++ [some ⟨true, 0, [.int .i64 rk, .int .i64 rn, sl]⟩] ++ [some ⟨true, 0, [.int .i64 (d : Int)]⟩]) (H.length + 1) = some ⟨true, 0, [.int .i64 (d : Int)]⟩ := getO_append_of_len (by rw [len_snoc])
  have hr2 := hr.gr g01
  obtain ⟨c3, hc3, hx3⟩ := abc_ix (rn % 3) (by omega)
  obtain ⟨s3, hs3⟩ := one_ok' c3 hc3
  obtain ⟨c2, hc2, hx2⟩ := ab_ix (rn % 2) (by omega)
  obtain ⟨s2, hs2⟩ := one_ok' c2 hc2
  have hz1 : (List.replicate 256 (Value.bool false)).toArray.toList.all noRef = true := by simp [noRef]
  have hz2 : (List.replicate 256 (Value.bool false)).toArray.toList.all isCell = true := by simp [isCell]
  have hf : mkFn (.func 13) (some [.pointer (some ⟨H.length, 0, none⟩), .pointer (some ⟨H.length + 1, 0, none⟩)]) = some (.func (.func 13) #[] #[.pointer (some ⟨H.length, 0, none⟩), .pointer (some ⟨H.length + 1, 0, none⟩)]) := rfl
  have hk : rk % 12 = 0 ∨ rk % 12 = 1 ∨ rk % 12 = 2 ∨ rk % 12 = 3 ∨ rk % 12 = 4 ∨ rk % 12 = 5 ∨ rk % 12 = 6 ∨ rk % 12 = 7 ∨ rk % 12 = 8 ∨ rk % 12 = 9 ∨ rk % 12 = 10 ∨ rk % 12 = 11 := by omega
  have e0 : decide ((d : Int) ≤ 0) = true := by subst hd0; rfl
  rcases hk with hk | hk | hk | hk | hk | hk | hk | hk | hk | hk | hk | hk
  · (refine call_intro fun5 name5 body5 ?_; simp only [Try.ntmps5, List.map_cons, List.map_nil, List.length_cons, List.length_nil, Nat.zero_add, Nat.reduceAdd, Nat.reduceSub, List.replicate_succ, List.replicate_zero, List.cons_append, List.nil_append])
    refine rS c5_l c5_r rfl ?_
    refine run_region rfl ?_
    simp only [sX, simprocAttr, -List.reduceReplicate, hsl, List.toList_toArray]
    refine rS c5_rl c5_rr rfl ?_
    refine run_region rfl ?_
    simp only [sX, simprocAttr, -List.reduceReplicate, g2]
    refine call_of (pick_ok rk 12 (by decide) (by decide) _ _) ?_
    rintro v H2 ⟨rfl, hh⟩
    subst hh
    rw [hk]
    simp only [sX, simprocAttr, -List.reduceReplicate]
    refine rS c5_rrl c5_rrr rfl ?_
    refine run_region rfl ?_
    simp only [sX, simprocAttr, -List.reduceReplicate, exe_makeFunc, hf]
    refine rS c5_rrrl c5_rrrr rfl ?_
    refine rS c5_rrrll c5_rrrlr rfl ?_
    refine run_regionG rfl c5_rrrll_gs ?_
    simp only [sX, simprocAttr, -List.reduceReplicate, g3, e0]
    refine rF c5_rrrlrt c5_rrrlre rfl rfl ?_
    refine run_skip rfl ?_
    simp only [sP]
    refine rS c5_rrrrl c5_rrrrr rfl ?_
    refine rS c5_rrrrll c5_rrrrlr rfl ?_
    refine run_region rfl ?_
    simp only [sX, simprocAttr, -List.reduceReplicate]
    refine run_block (b := c5_rrrrlrb) rfl ?_
    refine rS c5_rrrrlrbl c5_rrrrlrbr rfl ?_
    refine rS c5_rrrrlrbll c5_rrrrlrblr rfl ?_
    refine run_region rfl ?_
    simp only [sX, simprocAttr, -List.reduceReplicate]
    refine rF c5_rrrrlrblrt c5_rrrrlrblre rfl rfl ?_
    refine run_region rfl ?_
    simp only [sX, simprocAttr, -List.reduceReplicate]
    refine rF c5_rrrrlrbrt c5_rrrrlrbre rfl rfl ?_
    refine rS c5_rrrrlrbrel c5_rrrrlrbrer rfl ?_
    refine rS c5_rrrrlrbrell c5_rrrrlrbrelr rfl ?_
    refine run_region rfl ?_
    simp only [sX, simprocAttr, -List.reduceReplicate]
    refine rF c5_rrrrlrbrelrt c5_rrrrlrbrelre rfl rfl ?_
    refine run_region rfl ?_
    simp only [sX, simprocAttr, -List.reduceReplicate]
    refine rF c5_rrrrlrbrert c5_rrrrlrbrere rfl rfl ?_
    refine rS c5_rrrrlrbrerel c5_rrrrlrbrerer rfl ?_
    refine run_region rfl ?_
    simp only [sX, simprocAttr, -List.reduceReplicate]
    refine rF c5_rrrrlrbrerert c5_rrrrlrbrerere rfl rfl ?_
    refine rS c5_rrrrlrbrererel c5_rrrrlrbrererer rfl ?_
    refine run_region rfl ?_
    simp only [sX, simprocAttr, -List.reduceReplicate]
    refine rF c5_rrrrlrbrererert c5_rrrrlrbrererere rfl rfl ?_
    refine rS c5_rrrrlrbrerererel c5_rrrrlrbrerererer rfl ?_
    refine run_region rfl ?_
    simp only [sX, simprocAttr, -List.reduceReplicate]
    refine rF c5_rrrrlrbrerererert c5_rrrrlrbrerererere rfl rfl ?_
    refine rS c5_rrrrlrbrererererel c5_rrrrlrbrererererer rfl ?_
    refine rS c5_rrrrlrbrererererell c5_rrrrlrbrererererelr rfl ?_
    refine run_region rfl ?_
    simp only [sX, simprocAttr, -List.reduceReplicate]
    refine rT c5_rrrrlrbrererererelrt c5_rrrrlrbrererererelre rfl rfl ?_
    refine run_skip rfl ?_
    simp only [sP]
    refine rT c5_rrrrlrbrererererert c5_rrrrlrbrererererere rfl rfl ?_
    refine rS c5_rrrrlrbrererererertl c5_rrrrlrbrererererertr rfl ?_
    refine run_region rfl ?_
    simp only [sX, simprocAttr, -List.reduceReplicate, g2]
    refine call_of (pick_ok rn 3 (by decide) (by decide) _ _) ?_
    rintro v H2 ⟨rfl, hh⟩
    subst hh
    simp only [sX, simprocAttr, -List.reduceReplicate, hx3]
    refine call_of (hs3 _ _) ?_
    rintro v H2 ⟨rfl, hh⟩
    subst hh
    unfold reV
    simp only [sX, simprocAttr, -List.reduceReplicate, List.toList_toArray]
    refine run_ret rfl ?_
    (simp only [sP]; refine ⟨_, (by rw [resultsA_eq Try.results5]; simp only [sR, List.mapM_cons, List.mapM_nil, if_true, Nat.reduceAdd]; rfl), ?_⟩)
    exact gotT_leaf _ _ g01 1 s3 d
  · (refine call_intro fun5 name5 body5 ?_; simp only [Try.ntmps5, List.map_cons, List.map_nil, List.length_cons, List.length_nil, Nat.zero_add, Nat.reduceAdd, Nat.reduceSub, List.replicate_succ, List.replicate_zero, List.cons_append, List.nil_append])
    refine rS c5_l c5_r rfl ?_
    refine run_region rfl ?_
    simp only [sX, simprocAttr, -List.reduceReplicate, hsl, List.toList_toArray]
    refine rS c5_rl c5_rr rfl ?_
    refine run_region rfl ?_
    simp only [sX, simprocAttr, -List.reduceReplicate, g2]
    refine call_of (pick_ok rk 12 (by decide) (by decide) _ _) ?_
    rintro v H2 ⟨rfl, hh⟩
    subst hh
    rw [hk]
    simp only [sX, simprocAttr, -List.reduceReplicate]
    refine rS c5_rrl c5_rrr rfl ?_
    refine run_region rfl ?_
    simp only [sX, simprocAttr, -List.reduceReplicate, exe_makeFunc, hf]
    refine rS c5_rrrl c5_rrrr rfl ?_
    refine rS c5_rrrll c5_rrrlr rfl ?_
    refine run_regionG rfl c5_rrrll_gs ?_
    simp only [sX, simprocAttr, -List.reduceReplicate, g3, e0]
    refine rF c5_rrrlrt c5_rrrlre rfl rfl ?_
    refine run_skip rfl ?_
    simp only [sP]
    refine rS c5_rrrrl c5_rrrrr rfl ?_
    refine rS c5_rrrrll c5_rrrrlr rfl ?_
    refine run_region rfl ?_
    simp only [sX, simprocAttr, -List.reduceReplicate]
    refine run_block (b := c5_rrrrlrb) rfl ?_
    refine rS c5_rrrrlrbl c5_rrrrlrbr rfl ?_
    refine rS c5_rrrrlrbll c5_rrrrlrblr rfl ?_
    refine run_region rfl ?_
    simp only [sX, simprocAttr, -List.reduceReplicate]
    refine rF c5_rrrrlrblrt c5_rrrrlrblre rfl rfl ?_
    refine run_region rfl ?_
    simp only [sX, simprocAttr, -List.reduceReplicate]
    refine rF c5_rrrrlrbrt c5_rrrrlrbre rfl rfl ?_
    refine rS c5_rrrrlrbrel c5_rrrrlrbrer rfl ?_
    refine rS c5_rrrrlrbrell c5_rrrrlrbrelr rfl ?_
    refine run_region rfl ?_
    simp only [sX, simprocAttr, -List.reduceReplicate]
    refine rF c5_rrrrlrbrelrt c5_rrrrlrbrelre rfl rfl ?_
    refine run_region rfl ?_
    simp only [sX, simprocAttr, -List.reduceReplicate]
    refine rF c5_rrrrlrbrert c5_rrrrlrbrere rfl rfl ?_
    refine rS c5_rrrrlrbrerel c5_rrrrlrbrerer rfl ?_
    refine run_region rfl ?_
    simp only [sX, simprocAttr, -List.reduceReplicate]
    refine rF c5_rrrrlrbrerert c5_rrrrlrbrerere rfl rfl ?_
    refine rS c5_rrrrlrbrererel c5_rrrrlrbrererer rfl ?_
    refine run_region rfl ?_
    simp only [sX, simprocAttr, -List.reduceReplicate]
    refine rF c5_rrrrlrbrererert c5_rrrrlrbrererere rfl rfl ?_
    refine rS c5_rrrrlrbrerererel c5_rrrrlrbrerererer rfl ?_
    refine run_region rfl ?_
    simp only [sX, simprocAttr, -List.reduceReplicate]
    refine rF c5_rrrrlrbrerererert c5_rrrrlrbrerererere rfl rfl ?_
    refine rS c5_rrrrlrbrererererel c5_rrrrlrbrererererer rfl ?_
    refine rS c5_rrrrlrbrererererell c5_rrrrlrbrererererelr rfl ?_
    refine run_region rfl ?_
    simp only [sX, simprocAttr, -List.reduceReplicate]
    refine rF c5_rrrrlrbrererererelrt c5_rrrrlrbrererererelre rfl rfl ?_
    refine run_region rfl ?_
    simp only [sX, simprocAttr, -List.reduceReplicate]
    refine rT c5_rrrrlrbrererererert c5_rrrrlrbrererererere rfl rfl ?_
    refine rS c5_rrrrlrbrererererertl c5_rrrrlrbrererererertr rfl ?_
    refine run_region rfl ?_
    simp only [sX, simprocAttr, -List.reduceReplicate, g2]
    refine call_of (pick_ok rn 3 (by decide) (by decide) _ _) ?_
    rintro v H2 ⟨rfl, hh⟩
    subst hh
    simp only [sX, simprocAttr, -List.reduceReplicate, hx3]
    refine call_of (hs3 _ _) ?_
    rintro v H2 ⟨rfl, hh⟩
    subst hh
    unfold reV
    simp only [sX, simprocAttr, -List.reduceReplicate, List.toList_toArray]
    refine run_ret rfl ?_
    (simp only [sP]; refine ⟨_, (by rw [resultsA_eq Try.results5]; simp only [sR, List.mapM_cons, List.mapM_nil, if_true, Nat.reduceAdd]; rfl), ?_⟩)
    exact gotT_leaf _ _ g01 1 s3 d
  · (refine call_intro fun5 name5 body5 ?_; simp only [Try.ntmps5, List.map_cons, List.map_nil, List.length_cons, List.length_nil, Nat.zero_add, Nat.reduceAdd, Nat.reduceSub, List.replicate_succ, List.replicate_zero, List.cons_append, List.nil_append])
    refine rS c5_l c5_r rfl ?_
    refine run_region rfl ?_
    simp only [sX, simprocAttr, -List.reduceReplicate, hsl, List.toList_toArray]
    refine rS c5_rl c5_rr rfl ?_
    refine run_region rfl ?_
    simp only [sX, simprocAttr, -List.reduceReplicate, g2]
    refine call_of (pick_ok rk 12 (by decide) (by decide) _ _) ?_
    rintro v H2 ⟨rfl, hh⟩
    subst hh
    rw [hk]
    simp only [sX, simprocAttr, -List.reduceReplicate]
    refine rS c5_rrl c5_rrr rfl ?_
    refine run_region rfl ?_
    simp only [sX, simprocAttr, -List.reduceReplicate, exe_makeFunc, hf]
    refine rS c5_rrrl c5_rrrr rfl ?_
    refine rS c5_rrrll c5_rrrlr rfl ?_
    refine run_regionG rfl c5_rrrll_gs ?_
    simp only [sX, simprocAttr, -List.reduceReplicate, g3, e0]
    refine rF c5_rrrlrt c5_rrrlre rfl rfl ?_
    refine run_skip rfl ?_
    simp only [sP]
    refine rS c5_rrrrl c5_rrrrr rfl ?_
    refine rS c5_rrrrll c5_rrrrlr rfl ?_
    refine run_region rfl ?_
    simp only [sX, simprocAttr, -List.reduceReplicate]
    refine run_block (b := c5_rrrrlrb) rfl ?_
    refine rS c5_rrrrlrbl c5_rrrrlrbr rfl ?_
    refine rS c5_rrrrlrbll c5_rrrrlrblr rfl ?_
    refine run_region rfl ?_
    simp only [sX, simprocAttr, -List.reduceReplicate]
    refine rF c5_rrrrlrblrt c5_rrrrlrblre rfl rfl ?_
    refine run_region rfl ?_
    simp only [sX, simprocAttr, -List.reduceReplicate]
    refine rF c5_rrrrlrbrt c5_rrrrlrbre rfl rfl ?_
    refine rS c5_rrrrlrbrel c5_rrrrlrbrer rfl ?_
    refine rS c5_rrrrlrbrell c5_rrrrlrbrelr rfl ?_
    refine run_region rfl ?_
    simp only [sX, simprocAttr, -List.reduceReplicate]
    refine rF c5_rrrrlrbrelrt c5_rrrrlrbrelre rfl rfl ?_
    refine run_region rfl ?_
    simp only [sX, simprocAttr, -List.reduceReplicate]
    refine rF c5_rrrrlrbrert c5_rrrrlrbrere rfl rfl ?_
    refine rS c5_rrrrlrbrerel c5_rrrrlrbrerer rfl ?_
    refine run_region rfl ?_
    simp only [sX, simprocAttr, -List.reduceReplicate]
    refine rF c5_rrrrlrbrerert c5_rrrrlrbrerere rfl rfl ?_
    refine rS c5_rrrrlrbrererel c5_rrrrlrbrererer rfl ?_
    refine run_region rfl ?_
    simp only [sX, simprocAttr, -List.reduceReplicate]
    refine rF c5_rrrrlrbrererert c5_rrrrlrbrererere rfl rfl ?_
    refine rS c5_rrrrlrbrerererel c5_rrrrlrbrerererer rfl ?_
    refine run_region rfl ?_
    simp only [sX, simprocAttr, -List.reduceReplicate]
    refine rF c5_rrrrlrbrerererert c5_rrrrlrbrerererere rfl rfl ?_
    refine rS c5_rrrrlrbrererererel c5_rrrrlrbrererererer rfl ?_
    refine rS c5_rrrrlrbrererererell c5_rrrrlrbrererererelr rfl ?_
    refine run_region rfl ?_
    simp only [sX, simprocAttr, -List.reduceReplicate]
    refine rF c5_rrrrlrbrererererelrt c5_rrrrlrbrererererelre rfl rfl ?_
    refine run_region rfl ?_
    simp only [sX, simprocAttr, -List.reduceReplicate]
    refine rF c5_rrrrlrbrererererert c5_rrrrlrbrererererere rfl rfl ?_
    refine rS c5_rrrrlrbrerererererel c5_rrrrlrbrerererererer rfl ?_
    refine run_region rfl ?_
    simp only [sX, simprocAttr, -List.reduceReplicate]
    refine rT c5_rrrrlrbrerererererert c5_rrrrlrbrerererererere rfl rfl ?_
    refine rS c5_rrrrlrbrerererererertl c5_rrrrlrbrerererererertr rfl ?_
    refine run_region rfl ?_
    simp only [sX, simprocAttr, -List.reduceReplicate, List.toList_toArray, hz1, hz2]
    refine rS c5_rrrrlrbrerererererertrl c5_rrrrlrbrerererererertrr rfl ?_
    refine rS c5_rrrrlrbrerererererertrll c5_rrrrlrbrerererererertrlr rfl ?_
    refine run_region rfl ?_
    simp only [sX, simprocAttr, -List.reduceReplicate]
    refine run_block (b := c5_rrrrlrbrerererererertrlrb) rfl ?_
    exact tbl_loop _ _ _ rk rn sl H.length (H.length + 1) d g2 (fun s H1 hg => gotT_leaf _ _ (g01.trans hg) 1 s d) 256 0 _ rfl (by simp only [sC, Nat.reduceBEq, Nat.reduceAdd]; simp [tbR])
  · have h3 : rn % 3 = 0 ∨ rn % 3 = 1 ∨ rn % 3 = 2 := by omega
    rcases h3 with h3 | h3 | h3
    · (refine call_intro fun5 name5 body5 ?_; simp only [Try.ntmps5, List.map_cons, List.map_nil, List.length_cons, List.length_nil, Nat.zero_add, Nat.reduceAdd, Nat.reduceSub, List.replicate_succ, List.replicate_zero, List.cons_append, List.nil_append])
      refine rS c5_l c5_r rfl ?_
      refine run_region rfl ?_
      simp only [sX, simprocAttr, -List.reduceReplicate, hsl, List.toList_toArray]
      refine rS c5_rl c5_rr rfl ?_
      refine run_region rfl ?_
      simp only [sX, simprocAttr, -List.reduceReplicate, g2]
      refine call_of (pick_ok rk 12 (by decide) (by decide) _ _) ?_
      rintro v H2 ⟨rfl, hh⟩
      subst hh
      rw [hk]
      simp only [sX, simprocAttr, -List.reduceReplicate]
      refine rS c5_rrl c5_rrr rfl ?_
      refine run_region rfl ?_
      simp only [sX, simprocAttr, -List.reduceReplicate, exe_makeFunc, hf]
      refine rS c5_rrrl c5_rrrr rfl ?_
      refine rS c5_rrrll c5_rrrlr rfl ?_
      refine run_regionG rfl c5_rrrll_gs ?_
      simp only [sX, simprocAttr, -List.reduceReplicate, g3, e0]
      refine rF c5_rrrlrt c5_rrrlre rfl rfl ?_
      refine run_skip rfl ?_
      simp only [sP]
      refine rS c5_rrrrl c5_rrrrr rfl ?_
      refine rS c5_rrrrll c5_rrrrlr rfl ?_
      refine run_region rfl ?_
      simp only [sX, simprocAttr, -List.reduceReplicate]
      refine run_block (b := c5_rrrrlrb) rfl ?_
      refine rS c5_rrrrlrbl c5_rrrrlrbr rfl ?_
      refine rS c5_rrrrlrbll c5_rrrrlrblr rfl ?_
      refine run_region rfl ?_
      simp only [sX, simprocAttr, -List.reduceReplicate]
      refine rF c5_rrrrlrblrt c5_rrrrlrblre rfl rfl ?_
      refine run_region rfl ?_
      simp only [sX, simprocAttr, -List.reduceReplicate]
      refine rF c5_rrrrlrbrt c5_rrrrlrbre rfl rfl ?_
      refine rS c5_rrrrlrbrel c5_rrrrlrbrer rfl ?_
      refine rS c5_rrrrlrbrell c5_rrrrlrbrelr rfl ?_
      refine run_region rfl ?_
      simp only [sX, simprocAttr, -List.reduceReplicate]
      refine rF c5_rrrrlrbrelrt c5_rrrrlrbrelre rfl rfl ?_
      refine run_region rfl ?_
      simp only [sX, simprocAttr, -List.reduceReplicate]
      refine rF c5_rrrrlrbrert c5_rrrrlrbrere rfl rfl ?_
      refine rS c5_rrrrlrbrerel c5_rrrrlrbrerer rfl ?_
      refine run_region rfl ?_
      simp only [sX, simprocAttr, -List.reduceReplicate]
      refine rF c5_rrrrlrbrerert c5_rrrrlrbrerere rfl rfl ?_
      refine rS c5_rrrrlrbrererel c5_rrrrlrbrererer rfl ?_
      refine run_region rfl ?_
      simp only [sX, simprocAttr, -List.reduceReplicate]
      refine rF c5_rrrrlrbrererert c5_rrrrlrbrererere rfl rfl ?_
      refine rS c5_rrrrlrbrerererel c5_rrrrlrbrerererer rfl ?_
      refine run_region rfl ?_
      simp only [sX, simprocAttr, -List.reduceReplicate]
      refine rF c5_rrrrlrbrerererert c5_rrrrlrbrerererere rfl rfl ?_
      refine rS c5_rrrrlrbrererererel c5_rrrrlrbrererererer rfl ?_
      refine rS c5_rrrrlrbrererererell c5_rrrrlrbrererererelr rfl ?_
      refine run_region rfl ?_
      simp only [sX, simprocAttr, -List.reduceReplicate]
      refine rF c5_rrrrlrbrererererelrt c5_rrrrlrbrererererelre rfl rfl ?_
      refine run_region rfl ?_
      simp only [sX, simprocAttr, -List.reduceReplicate]
      refine rF c5_rrrrlrbrererererert c5_rrrrlrbrererererere rfl rfl ?_
      refine rS c5_rrrrlrbrerererererel c5_rrrrlrbrerererererer rfl ?_
      refine run_region rfl ?_
      simp only [sX, simprocAttr, -List.reduceReplicate]
      refine rF c5_rrrrlrbrerererererert c5_rrrrlrbrerererererere rfl rfl ?_
      refine rS c5_rrrrlrbrererererererel c5_rrrrlrbrererererererer rfl ?_
      refine run_region rfl ?_
      simp only [sX, simprocAttr, -List.reduceReplicate]
      refine rT c5_rrrrlrbrererererererert c5_rrrrlrbrererererererere rfl rfl ?_
      refine rS c5_rrrrlrbrererererererertl c5_rrrrlrbrererererererertr rfl ?_
      refine run_region rfl ?_
      simp only [sX, simprocAttr, -List.reduceReplicate, g2]
      refine call_of (pick_ok rn 3 (by decide) (by decide) _ _) ?_
      rintro v H2 ⟨rfl, hh⟩
      subst hh
      rw [h3]
      simp only [sX, simprocAttr, -List.reduceReplicate, List.toList_toArray]
      refine run_ret rfl ?_
      (simp only [sP]; refine ⟨_, (by rw [resultsA_eq Try.results5]; simp only [sR, List.mapM_cons, List.mapM_nil, if_true, Nat.reduceAdd]; rfl), ?_⟩)
      exact gotT_leaf _ _ g01 0 S4.z d
    · (refine call_intro fun5 name5 body5 ?_; simp only [Try.ntmps5, List.map_cons, List.map_nil, List.length_cons, List.length_nil, Nat.zero_add, Nat.reduceAdd, Nat.reduceSub, List.replicate_succ, List.replicate_zero, List.cons_append, List.nil_append])
      refine rS c5_l c5_r rfl ?_
      refine run_region rfl ?_
      simp only [sX, simprocAttr, -List.reduceReplicate, hsl, List.toList_toArray]
      refine rS c5_rl c5_rr rfl ?_
      refine run_region rfl ?_
      simp only [sX, simprocAttr, -List.reduceReplicate, g2]
      refine call_of (pick_ok rk 12 (by decide) (by decide) _ _) ?_
      rintro v H2 ⟨rfl, hh⟩
      subst hh
      rw [hk]
      simp only [sX, simprocAttr, -List.reduceReplicate]
      refine rS c5_rrl c5_rrr rfl ?_
      refine run_region rfl ?_
      simp only [sX, simprocAttr, -List.reduceReplicate, exe_makeFunc, hf]
      refine rS c5_rrrl c5_rrrr rfl ?_
      refine rS c5_rrrll c5_rrrlr rfl ?_
      refine run_regionG rfl c5_rrrll_gs ?_
      simp only [sX, simprocAttr, -List.reduceReplicate, g3, e0]
      refine rF c5_rrrlrt c5_rrrlre rfl rfl ?_
      refine run_skip rfl ?_
      simp only [sP]
      refine rS c5_rrrrl c5_rrrrr rfl ?_
      refine rS c5_rrrrll c5_rrrrlr rfl ?_
      refine run_region rfl ?_
      simp only [sX, simprocAttr, -List.reduceReplicate]
      refine run_block (b := c5_rrrrlrb) rfl ?_
      refine rS c5_rrrrlrbl c5_rrrrlrbr rfl ?_
      refine rS c5_rrrrlrbll c5_rrrrlrblr rfl ?_
      refine run_region rfl ?_
      simp only [sX, simprocAttr, -List.reduceReplicate]
      refine rF c5_rrrrlrblrt c5_rrrrlrblre rfl rfl ?_
      refine run_region rfl ?_
      simp only [sX, simprocAttr, -List.reduceReplicate]
      refine rF c5_rrrrlrbrt c5_rrrrlrbre rfl rfl ?_
      refine rS c5_rrrrlrbrel c5_rrrrlrbrer rfl ?_
      refine rS c5_rrrrlrbrell c5_rrrrlrbrelr rfl ?_
      refine run_region rfl ?_
      simp only [sX, simprocAttr, -List.reduceReplicate]
      refine rF c5_rrrrlrbrelrt c5_rrrrlrbrelre rfl rfl ?_
      refine run_region rfl ?_
      simp only [sX, simprocAttr, -List.reduceReplicate]
      refine rF c5_rrrrlrbrert c5_rrrrlrbrere rfl rfl ?_
      refine rS c5_rrrrlrbrerel c5_rrrrlrbrerer rfl ?_
      refine run_region rfl ?_
      simp only [sX, simprocAttr, -List.reduceReplicate]
      refine rF c5_rrrrlrbrerert c5_rrrrlrbrerere rfl rfl ?_
      refine rS c5_rrrrlrbrererel c5_rrrrlrbrererer rfl ?_
      refine run_region rfl ?_
      simp only [sX, simprocAttr, -List.reduceReplicate]
      refine rF c5_rrrrlrbrererert c5_rrrrlrbrererere rfl rfl ?_
      refine rS c5_rrrrlrbrerererel c5_rrrrlrbrerererer rfl ?_
      refine run_region rfl ?_
      simp only [sX, simprocAttr, -List.reduceReplicate]
      refine rF c5_rrrrlrbrerererert c5_rrrrlrbrerererere rfl rfl ?_
      refine rS c5_rrrrlrbrererererel c5_rrrrlrbrererererer rfl ?_
      refine rS c5_rrrrlrbrererererell c5_rrrrlrbrererererelr rfl ?_
      refine run_region rfl ?_
      simp only [sX, simprocAttr, -List.reduceReplicate]
      refine rF c5_rrrrlrbrererererelrt c5_rrrrlrbrererererelre rfl rfl ?_
      refine run_region rfl ?_
      simp only [sX, simprocAttr, -List.reduceReplicate]
      refine rF c5_rrrrlrbrererererert c5_rrrrlrbrererererere rfl rfl ?_
      refine rS c5_rrrrlrbrerererererel c5_rrrrlrbrerererererer rfl ?_
      refine run_region rfl ?_
      simp only [sX, simprocAttr, -List.reduceReplicate]
      refine rF c5_rrrrlrbrerererererert c5_rrrrlrbrerererererere rfl rfl ?_
      refine rS c5_rrrrlrbrererererererel c5_rrrrlrbrererererererer rfl ?_
      refine run_region rfl ?_
      simp only [sX, simprocAttr, -List.reduceReplicate]
      refine rT c5_rrrrlrbrererererererert c5_rrrrlrbrererererererere rfl rfl ?_
      refine rS c5_rrrrlrbrererererererertl c5_rrrrlrbrererererererertr rfl ?_
      refine run_region rfl ?_
      simp only [sX, simprocAttr, -List.reduceReplicate, g2]
      refine call_of (pick_ok rn 3 (by decide) (by decide) _ _) ?_
      rintro v H2 ⟨rfl, hh⟩
      subst hh
      rw [h3]
      simp only [sX, simprocAttr, -List.reduceReplicate, List.toList_toArray]
      refine run_ret rfl ?_
      (simp only [sP]; refine ⟨_, (by rw [resultsA_eq Try.results5]; simp only [sR, List.mapM_cons, List.mapM_nil, if_true, Nat.reduceAdd]; rfl), ?_⟩)
      exact gotT_leaf _ _ g01 7 S4.z d
    · (refine call_intro fun5 name5 body5 ?_; simp only [Try.ntmps5, List.map_cons, List.map_nil, List.length_cons, List.length_nil, Nat.zero_add, Nat.reduceAdd, Nat.reduceSub, List.replicate_succ, List.replicate_zero, List.cons_append, List.nil_append])
      refine rS c5_l c5_r rfl ?_
      refine run_region rfl ?_
      simp only [sX, simprocAttr, -List.reduceReplicate, hsl, List.toList_toArray]
      refine rS c5_rl c5_rr rfl ?_
      refine run_region rfl ?_
      simp only [sX, simprocAttr, -List.reduceReplicate, g2]
      refine call_of (pick_ok rk 12 (by decide) (by decide) _ _) ?_
      rintro v H2 ⟨rfl, hh⟩
      subst hh
      rw [hk]
      simp only [sX, simprocAttr, -List.reduceReplicate]
      refine rS c5_rrl c5_rrr rfl ?_
      refine run_region rfl ?_
      simp only [sX, simprocAttr, -List.reduceReplicate, exe_makeFunc, hf]
      refine rS c5_rrrl c5_rrrr rfl ?_
      refine rS c5_rrrll c5_rrrlr rfl ?_
      refine run_regionG rfl c5_rrrll_gs ?_
      simp only [sX, simprocAttr, -List.reduceReplicate, g3, e0]
      refine rF c5_rrrlrt c5_rrrlre rfl rfl ?_
      refine run_skip rfl ?_
      simp only [sP]
      refine rS c5_rrrrl c5_rrrrr rfl ?_
      refine rS c5_rrrrll c5_rrrrlr rfl ?_
      refine run_region rfl ?_
      simp only [sX, simprocAttr, -List.reduceReplicate]
      refine run_block (b := c5_rrrrlrb) rfl ?_
      refine rS c5_rrrrlrbl c5_rrrrlrbr rfl ?_
      refine rS c5_rrrrlrbll c5_rrrrlrblr rfl ?_
      refine run_region rfl ?_
      simp only [sX, simprocAttr, -List.reduceReplicate]
      refine rF c5_rrrrlrblrt c5_rrrrlrblre rfl rfl ?_
      refine run_region rfl ?_
      simp only [sX, simprocAttr, -List.reduceReplicate]
      refine rF c5_rrrrlrbrt c5_rrrrlrbre rfl rfl ?_
      refine rS c5_rrrrlrbrel c5_rrrrlrbrer rfl ?_
      refine rS c5_rrrrlrbrell c5_rrrrlrbrelr rfl ?_
      refine run_region rfl ?_
      simp only [sX, simprocAttr, -List.reduceReplicate]
      refine rF c5_rrrrlrbrelrt c5_rrrrlrbrelre rfl rfl ?_
      refine run_region rfl ?_
      simp only [sX, simprocAttr, -List.reduceReplicate]
      refine rF c5_rrrrlrbrert c5_rrrrlrbrere rfl rfl ?_
      refine rS c5_rrrrlrbrerel c5_rrrrlrbrerer rfl ?_
      refine run_region rfl ?_
      simp only [sX, simprocAttr, -List.reduceReplicate]
      refine rF c5_rrrrlrbrerert c5_rrrrlrbrerere rfl rfl ?_
      refine rS c5_rrrrlrbrererel c5_rrrrlrbrererer rfl ?_
      refine run_region rfl ?_
      simp only [sX, simprocAttr, -List.reduceReplicate]
      refine rF c5_rrrrlrbrererert c5_rrrrlrbrererere rfl rfl ?_
      refine rS c5_rrrrlrbrerererel c5_rrrrlrbrerererer rfl ?_
      refine run_region rfl ?_
      simp only [sX, simprocAttr, -List.reduceReplicate]
      refine rF c5_rrrrlrbrerererert c5_rrrrlrbrerererere rfl rfl ?_
      refine rS c5_rrrrlrbrererererel c5_rrrrlrbrererererer rfl ?_
      refine rS c5_rrrrlrbrererererell c5_rrrrlrbrererererelr rfl ?_
      refine run_region rfl ?_
      simp only [sX, simprocAttr, -List.reduceReplicate]
      refine rF c5_rrrrlrbrererererelrt c5_rrrrlrbrererererelre rfl rfl ?_
      refine run_region rfl ?_
      simp only [sX, simprocAttr, -List.reduceReplicate]
      refine rF c5_rrrrlrbrererererert c5_rrrrlrbrererererere rfl rfl ?_
      refine rS c5_rrrrlrbrerererererel c5_rrrrlrbrerererererer rfl ?_
      refine run_region rfl ?_
      simp only [sX, simprocAttr, -List.reduceReplicate]
      refine rF c5_rrrrlrbrerererererert c5_rrrrlrbrerererererere rfl rfl ?_
      refine rS c5_rrrrlrbrererererererel c5_rrrrlrbrererererererer rfl ?_
      refine run_region rfl ?_
      simp only [sX, simprocAttr, -List.reduceReplicate]
      refine rT c5_rrrrlrbrererererererert c5_rrrrlrbrererererererere rfl rfl ?_
      refine rS c5_rrrrlrbrererererererertl c5_rrrrlrbrererererererertr rfl ?_
      refine run_region rfl ?_
      simp only [sX, simprocAttr, -List.reduceReplicate, g2]
      refine call_of (pick_ok rn 3 (by decide) (by decide) _ _) ?_
      rintro v H2 ⟨rfl, hh⟩
      subst hh
      rw [h3]
      simp only [sX, simprocAttr, -List.reduceReplicate, List.toList_toArray]
      refine run_ret rfl ?_
      (simp only [sP]; refine ⟨_, (by rw [resultsA_eq Try.results5]; simp only [sR, List.mapM_cons, List.mapM_nil, if_true, Nat.reduceAdd]; rfl), ?_⟩)
      exact gotT_leaf _ _ g01 8 S4.z d
  · (refine call_intro fun5 name5 body5 ?_; simp only [Try.ntmps5, List.map_cons, List.map_nil, List.length_cons, List.length_nil, Nat.zero_add, Nat.reduceAdd, Nat.reduceSub, List.replicate_succ, List.replicate_zero, List.cons_append, List.nil_append])
    refine rS c5_l c5_r rfl ?_
    refine run_region rfl ?_
    simp only [sX, simprocAttr, -List.reduceReplicate, hsl, List.toList_toArray]
    refine rS c5_rl c5_rr rfl ?_
    refine run_region rfl ?_
    simp only [sX, simprocAttr, -List.reduceReplicate, g2]
    refine call_of (pick_ok rk 12 (by decide) (by decide) _ _) ?_
    rintro v H2 ⟨rfl, hh⟩
    subst hh
    rw [hk]
    simp only [sX, simprocAttr, -List.reduceReplicate]
    refine rS c5_rrl c5_rrr rfl ?_
    refine run_region rfl ?_
    simp only [sX, simprocAttr, -List.reduceReplicate, exe_makeFunc, hf]
    refine rS c5_rrrl c5_rrrr rfl ?_
    refine rS c5_rrrll c5_rrrlr rfl ?_
    refine run_regionG rfl c5_rrrll_gs ?_
    simp only [sX, simprocAttr, -List.reduceReplicate, g3, e0]
    refine rF c5_rrrlrt c5_rrrlre rfl rfl ?_
    refine run_skip rfl ?_
    simp only [sP]
    refine rS c5_rrrrl c5_rrrrr rfl ?_
    refine rS c5_rrrrll c5_rrrrlr rfl ?_
    refine run_region rfl ?_
    simp only [sX, simprocAttr, -List.reduceReplicate]
    refine run_block (b := c5_rrrrlrb) rfl ?_
    refine rS c5_rrrrlrbl c5_rrrrlrbr rfl ?_
    refine rS c5_rrrrlrbll c5_rrrrlrblr rfl ?_
    refine run_region rfl ?_
    simp only [sX, simprocAttr, -List.reduceReplicate]
    refine rF c5_rrrrlrblrt c5_rrrrlrblre rfl rfl ?_
    refine run_region rfl ?_
    simp only [sX, simprocAttr, -List.reduceReplicate]
    refine rF c5_rrrrlrbrt c5_rrrrlrbre rfl rfl ?_
    refine rS c5_rrrrlrbrel c5_rrrrlrbrer rfl ?_
    refine rS c5_rrrrlrbrell c5_rrrrlrbrelr rfl ?_
    refine run_region rfl ?_
    simp only [sX, simprocAttr, -List.reduceReplicate]
    refine rF c5_rrrrlrbrelrt c5_rrrrlrbrelre rfl rfl ?_
    refine run_region rfl ?_
    simp only [sX, simprocAttr, -List.reduceReplicate]
    refine rF c5_rrrrlrbrert c5_rrrrlrbrere rfl rfl ?_
    refine rS c5_rrrrlrbrerel c5_rrrrlrbrerer rfl ?_
    refine run_region rfl ?_
    simp only [sX, simprocAttr, -List.reduceReplicate]
    refine rF c5_rrrrlrbrerert c5_rrrrlrbrerere rfl rfl ?_
    refine rS c5_rrrrlrbrererel c5_rrrrlrbrererer rfl ?_
    refine run_region rfl ?_
    simp only [sX, simprocAttr, -List.reduceReplicate]
    refine rF c5_rrrrlrbrererert c5_rrrrlrbrererere rfl rfl ?_
    refine rS c5_rrrrlrbrerererel c5_rrrrlrbrerererer rfl ?_
    refine run_region rfl ?_
    simp only [sX, simprocAttr, -List.reduceReplicate]
    refine rF c5_rrrrlrbrerererert c5_rrrrlrbrerererere rfl rfl ?_
    refine rS c5_rrrrlrbrererererel c5_rrrrlrbrererererer rfl ?_
    refine rS c5_rrrrlrbrererererell c5_rrrrlrbrererererelr rfl ?_
    refine run_region rfl ?_
    simp only [sX, simprocAttr, -List.reduceReplicate]
    refine rF c5_rrrrlrbrererererelrt c5_rrrrlrbrererererelre rfl rfl ?_
    refine run_region rfl ?_
    simp only [sX, simprocAttr, -List.reduceReplicate]
    refine rF c5_rrrrlrbrererererert c5_rrrrlrbrererererere rfl rfl ?_
    refine rS c5_rrrrlrbrerererererel c5_rrrrlrbrerererererer rfl ?_
    refine run_region rfl ?_
    simp only [sX, simprocAttr, -List.reduceReplicate]
    refine rF c5_rrrrlrbrerererererert c5_rrrrlrbrerererererere rfl rfl ?_
    refine rS c5_rrrrlrbrererererererel c5_rrrrlrbrererererererer rfl ?_
    refine run_region rfl ?_
    simp only [sX, simprocAttr, -List.reduceReplicate]
    refine rF c5_rrrrlrbrererererererert c5_rrrrlrbrererererererere rfl rfl ?_
    refine run_skip rfl ?_
    simp only [sP]
    refine rS c5_rrrrrl c5_rrrrrr rfl ?_
    refine run_region rfl ?_
    simp only [sX, simprocAttr, -List.reduceReplicate, g2]
    refine call_of (pick_ok rn 2 (by decide) (by decide) _ _) ?_
    rintro v H2 ⟨rfl, hh⟩
    subst hh
    simp only [sX, simprocAttr, -List.reduceReplicate, hx2]
    refine call_of (hs2 _ _) ?_
    rintro v H2 ⟨rfl, hh⟩
    subst hh
    unfold reV
    simp only [sX, simprocAttr, -List.reduceReplicate, List.toList_toArray]
    refine run_ret rfl ?_
    (simp only [sP]; refine ⟨_, (by rw [resultsA_eq Try.results5]; simp only [sR, List.mapM_cons, List.mapM_nil, if_true, Nat.reduceAdd]; rfl), ?_⟩)
    exact gotT_leaf _ _ g01 1 s2 d
  · (refine call_intro fun5 name5 body5 ?_; simp only [Try.ntmps5, List.map_cons, List.map_nil, List.length_cons, List.length_nil, Nat.zero_add, Nat.reduceAdd, Nat.reduceSub, List.replicate_succ, List.replicate_zero, List.cons_append, List.nil_append])
    refine rS c5_l c5_r rfl ?_
    refine run_region rfl ?_
    simp only [sX, simprocAttr, -List.reduceReplicate, hsl, List.toList_toArray]
    refine rS c5_rl c5_rr rfl ?_
    refine run_region rfl ?_
    simp only [sX, simprocAttr, -List.reduceReplicate, g2]
    refine call_of (pick_ok rk 12 (by decide) (by decide) _ _) ?_
    rintro v H2 ⟨rfl, hh⟩
    subst hh
    rw [hk]
    simp only [sX, simprocAttr, -List.reduceReplicate]
    refine rS c5_rrl c5_rrr rfl ?_
    refine run_region rfl ?_
    simp only [sX, simprocAttr, -List.reduceReplicate, exe_makeFunc, hf]
    refine rS c5_rrrl c5_rrrr rfl ?_
    refine rS c5_rrrll c5_rrrlr rfl ?_
    refine run_regionG rfl c5_rrrll_gs ?_
    simp only [sX, simprocAttr, -List.reduceReplicate, g3, e0]
    refine rT c5_rrrlrt c5_rrrlre rfl rfl ?_
    refine run_region rfl ?_
    simp only [sX, simprocAttr, -List.reduceReplicate]
    refine rS c5_rrrrl c5_rrrrr rfl ?_
    refine rS c5_rrrrll c5_rrrrlr rfl ?_
    refine run_region rfl ?_
    simp only [sX, simprocAttr, -List.reduceReplicate]
    refine run_block (b := c5_rrrrlrb) rfl ?_
    refine rS c5_rrrrlrbl c5_rrrrlrbr rfl ?_
    refine rS c5_rrrrlrbll c5_rrrrlrblr rfl ?_
    refine run_region rfl ?_
    simp only [sX, simprocAttr, -List.reduceReplicate]
    refine rF c5_rrrrlrblrt c5_rrrrlrblre rfl rfl ?_
    refine run_region rfl ?_
    simp only [sX, simprocAttr, -List.reduceReplicate]
    refine rF c5_rrrrlrbrt c5_rrrrlrbre rfl rfl ?_
    refine rS c5_rrrrlrbrel c5_rrrrlrbrer rfl ?_
    refine rS c5_rrrrlrbrell c5_rrrrlrbrelr rfl ?_
    refine run_region rfl ?_
    simp only [sX, simprocAttr, -List.reduceReplicate]
    refine rF c5_rrrrlrbrelrt c5_rrrrlrbrelre rfl rfl ?_
    refine run_region rfl ?_
    simp only [sX, simprocAttr, -List.reduceReplicate]
    refine rF c5_rrrrlrbrert c5_rrrrlrbrere rfl rfl ?_
    refine rS c5_rrrrlrbrerel c5_rrrrlrbrerer rfl ?_
    refine run_region rfl ?_
    simp only [sX, simprocAttr, -List.reduceReplicate]
    refine rF c5_rrrrlrbrerert c5_rrrrlrbrerere rfl rfl ?_
    refine rS c5_rrrrlrbrererel c5_rrrrlrbrererer rfl ?_
    refine run_region rfl ?_
    simp only [sX, simprocAttr, -List.reduceReplicate]
    refine rF c5_rrrrlrbrererert c5_rrrrlrbrererere rfl rfl ?_
    refine rS c5_rrrrlrbrerererel c5_rrrrlrbrerererer rfl ?_
    refine run_region rfl ?_
    simp only [sX, simprocAttr, -List.reduceReplicate]
    refine rF c5_rrrrlrbrerererert c5_rrrrlrbrerererere rfl rfl ?_
    refine rS c5_rrrrlrbrererererel c5_rrrrlrbrererererer rfl ?_
    refine rS c5_rrrrlrbrererererell c5_rrrrlrbrererererelr rfl ?_
    refine run_region rfl ?_
    simp only [sX, simprocAttr, -List.reduceReplicate]
    refine rT c5_rrrrlrbrererererelrt c5_rrrrlrbrererererelre rfl rfl ?_
    refine run_skip rfl ?_
    simp only [sP]
    refine rT c5_rrrrlrbrererererert c5_rrrrlrbrererererere rfl rfl ?_
    refine rS c5_rrrrlrbrererererertl c5_rrrrlrbrererererertr rfl ?_
    refine run_region rfl ?_
    simp only [sX, simprocAttr, -List.reduceReplicate, g2]
    refine call_of (pick_ok rn 3 (by decide) (by decide) _ _) ?_
    rintro v H2 ⟨rfl, hh⟩
    subst hh
    simp only [sX, simprocAttr, -List.reduceReplicate, hx3]
    refine call_of (hs3 _ _) ?_
    rintro v H2 ⟨rfl, hh⟩
    subst hh
    unfold reV
    simp only [sX, simprocAttr, -List.reduceReplicate, List.toList_toArray]
    refine run_ret rfl ?_
    (simp only [sP]; refine ⟨_, (by rw [resultsA_eq Try.results5]; simp only [sR, List.mapM_cons, List.mapM_nil, if_true, Nat.reduceAdd]; rfl), ?_⟩)
    exact gotT_leaf _ _ g01 1 s3 d
  · (refine call_intro fun5 name5 body5 ?_; simp only [Try.ntmps5, List.map_cons, List.map_nil, List.length_cons, List.length_nil, Nat.zero_add, Nat.reduceAdd, Nat.reduceSub, List.replicate_succ, List.replicate_zero, List.cons_append, List.nil_append])
    refine rS c5_l c5_r rfl ?_
    refine run_region rfl ?_
    simp only [sX, simprocAttr, -List.reduceReplicate, hsl, List.toList_toArray]
    refine rS c5_rl c5_rr rfl ?_
    refine run_region rfl ?_
    simp only [sX, simprocAttr, -List.reduceReplicate, g2]
    refine call_of (pick_ok rk 12 (by decide) (by decide) _ _) ?_
    rintro v H2 ⟨rfl, hh⟩
    subst hh
    rw [hk]
    simp only [sX, simprocAttr, -List.reduceReplicate]
    refine rS c5_rrl c5_rrr rfl ?_
    refine run_region rfl ?_
    simp only [sX, simprocAttr, -List.reduceReplicate, exe_makeFunc, hf]
    refine rS c5_rrrl c5_rrrr rfl ?_
    refine rS c5_rrrll c5_rrrlr rfl ?_
    refine run_regionG rfl c5_rrrll_gs ?_
    simp only [sX, simprocAttr, -List.reduceReplicate, g3, e0]
    refine rT c5_rrrlrt c5_rrrlre rfl rfl ?_
    refine run_region rfl ?_
    simp only [sX, simprocAttr, -List.reduceReplicate]
    refine rS c5_rrrrl c5_rrrrr rfl ?_
    refine rS c5_rrrrll c5_rrrrlr rfl ?_
    refine run_region rfl ?_
    simp only [sX, simprocAttr, -List.reduceReplicate]
    refine run_block (b := c5_rrrrlrb) rfl ?_
    refine rS c5_rrrrlrbl c5_rrrrlrbr rfl ?_
    refine rS c5_rrrrlrbll c5_rrrrlrblr rfl ?_
    refine run_region rfl ?_
    simp only [sX, simprocAttr, -List.reduceReplicate]
    refine rF c5_rrrrlrblrt c5_rrrrlrblre rfl rfl ?_
    refine run_region rfl ?_
    simp only [sX, simprocAttr, -List.reduceReplicate]
    refine rF c5_rrrrlrbrt c5_rrrrlrbre rfl rfl ?_
    refine rS c5_rrrrlrbrel c5_rrrrlrbrer rfl ?_
    refine rS c5_rrrrlrbrell c5_rrrrlrbrelr rfl ?_
    refine run_region rfl ?_
    simp only [sX, simprocAttr, -List.reduceReplicate]
    refine rF c5_rrrrlrbrelrt c5_rrrrlrbrelre rfl rfl ?_
    refine run_region rfl ?_
    simp only [sX, simprocAttr, -List.reduceReplicate]
    refine rF c5_rrrrlrbrert c5_rrrrlrbrere rfl rfl ?_
    refine rS c5_rrrrlrbrerel c5_rrrrlrbrerer rfl ?_
    refine run_region rfl ?_
    simp only [sX, simprocAttr, -List.reduceReplicate]
    refine rF c5_rrrrlrbrerert c5_rrrrlrbrerere rfl rfl ?_
    refine rS c5_rrrrlrbrererel c5_rrrrlrbrererer rfl ?_
    refine run_region rfl ?_
    simp only [sX, simprocAttr, -List.reduceReplicate]
    refine rF c5_rrrrlrbrererert c5_rrrrlrbrererere rfl rfl ?_
    refine rS c5_rrrrlrbrerererel c5_rrrrlrbrerererer rfl ?_
    refine run_region rfl ?_
    simp only [sX, simprocAttr, -List.reduceReplicate]
    refine rF c5_rrrrlrbrerererert c5_rrrrlrbrerererere rfl rfl ?_
    refine rS c5_rrrrlrbrererererel c5_rrrrlrbrererererer rfl ?_
    refine rS c5_rrrrlrbrererererell c5_rrrrlrbrererererelr rfl ?_
    refine run_region rfl ?_
    simp only [sX, simprocAttr, -List.reduceReplicate]
    refine rT c5_rrrrlrbrererererelrt c5_rrrrlrbrererererelre rfl rfl ?_
    refine run_skip rfl ?_
    simp only [sP]
    refine rT c5_rrrrlrbrererererert c5_rrrrlrbrererererere rfl rfl ?_
    refine rS c5_rrrrlrbrererererertl c5_rrrrlrbrererererertr rfl ?_
    refine run_region rfl ?_
    simp only [sX, simprocAttr, -List.reduceReplicate, g2]
    refine call_of (pick_ok rn 3 (by decide) (by decide) _ _) ?_
    rintro v H2 ⟨rfl, hh⟩
    subst hh
    simp only [sX, simprocAttr, -List.reduceReplicate, hx3]
    refine call_of (hs3 _ _) ?_
    rintro v H2 ⟨rfl, hh⟩
    subst hh
    unfold reV
    simp only [sX, simprocAttr, -List.reduceReplicate, List.toList_toArray]
    refine run_ret rfl ?_
    (simp only [sP]; refine ⟨_, (by rw [resultsA_eq Try.results5]; simp only [sR, List.mapM_cons, List.mapM_nil, if_true, Nat.reduceAdd]; rfl), ?_⟩)
    exact gotT_leaf _ _ g01 1 s3 d
  · (refine call_intro fun5 name5 body5 ?_; simp only [Try.ntmps5, List.map_cons, List.map_nil, List.length_cons, List.length_nil, Nat.zero_add, Nat.reduceAdd, Nat.reduceSub, List.replicate_succ, List.replicate_zero, List.cons_append, List.nil_append])
    refine rS c5_l c5_r rfl ?_
    refine run_region rfl ?_
    simp only [sX, simprocAttr, -List.reduceReplicate, hsl, List.toList_toArray]
    refine rS c5_rl c5_rr rfl ?_
    refine run_region rfl ?_
    simp only [sX, simprocAttr, -List.reduceReplicate, g2]
    refine call_of (pick_ok rk 12 (by decide) (by decide) _ _) ?_
    rintro v H2 ⟨rfl, hh⟩
    subst hh
    rw [hk]
    simp only [sX, simprocAttr, -List.reduceReplicate]
    refine rS c5_rrl c5_rrr rfl ?_
    refine run_region rfl ?_
    simp only [sX, simprocAttr, -List.reduceReplicate, exe_makeFunc, hf]
    refine rS c5_rrrl c5_rrrr rfl ?_
    refine rS c5_rrrll c5_rrrlr rfl ?_
    refine run_regionG rfl c5_rrrll_gs ?_
    simp only [sX, simprocAttr, -List.reduceReplicate, g3, e0]
    refine rT c5_rrrlrt c5_rrrlre rfl rfl ?_
    refine run_region rfl ?_
    simp only [sX, simprocAttr, -List.reduceReplicate]
    refine rS c5_rrrrl c5_rrrrr rfl ?_
    refine rS c5_rrrrll c5_rrrrlr rfl ?_
    refine run_region rfl ?_
    simp only [sX, simprocAttr, -List.reduceReplicate]
    refine run_block (b := c5_rrrrlrb) rfl ?_
    refine rS c5_rrrrlrbl c5_rrrrlrbr rfl ?_
    refine rS c5_rrrrlrbll c5_rrrrlrblr rfl ?_
    refine run_region rfl ?_
    simp only [sX, simprocAttr, -List.reduceReplicate]
    refine rF c5_rrrrlrblrt c5_rrrrlrblre rfl rfl ?_
    refine run_region rfl ?_
    simp only [sX, simprocAttr, -List.reduceReplicate]
    refine rF c5_rrrrlrbrt c5_rrrrlrbre rfl rfl ?_
    refine rS c5_rrrrlrbrel c5_rrrrlrbrer rfl ?_
    refine rS c5_rrrrlrbrell c5_rrrrlrbrelr rfl ?_
    refine run_region rfl ?_
    simp only [sX, simprocAttr, -List.reduceReplicate]
    refine rF c5_rrrrlrbrelrt c5_rrrrlrbrelre rfl rfl ?_
    refine run_region rfl ?_
    simp only [sX, simprocAttr, -List.reduceReplicate]
    refine rF c5_rrrrlrbrert c5_rrrrlrbrere rfl rfl ?_
    refine rS c5_rrrrlrbrerel c5_rrrrlrbrerer rfl ?_
    refine run_region rfl ?_
    simp only [sX, simprocAttr, -List.reduceReplicate]
    refine rF c5_rrrrlrbrerert c5_rrrrlrbrerere rfl rfl ?_
    refine rS c5_rrrrlrbrererel c5_rrrrlrbrererer rfl ?_
    refine run_region rfl ?_
    simp only [sX, simprocAttr, -List.reduceReplicate]
    refine rF c5_rrrrlrbrererert c5_rrrrlrbrererere rfl rfl ?_
    refine rS c5_rrrrlrbrerererel c5_rrrrlrbrerererer rfl ?_
    refine run_region rfl ?_
    simp only [sX, simprocAttr, -List.reduceReplicate]
    refine rF c5_rrrrlrbrerererert c5_rrrrlrbrerererere rfl rfl ?_
    refine rS c5_rrrrlrbrererererel c5_rrrrlrbrererererer rfl ?_
    refine rS c5_rrrrlrbrererererell c5_rrrrlrbrererererelr rfl ?_
    refine run_region rfl ?_
    simp only [sX, simprocAttr, -List.reduceReplicate]
    refine rT c5_rrrrlrbrererererelrt c5_rrrrlrbrererererelre rfl rfl ?_
    refine run_skip rfl ?_
    simp only [sP]
    refine rT c5_rrrrlrbrererererert c5_rrrrlrbrererererere rfl rfl ?_
    refine rS c5_rrrrlrbrererererertl c5_rrrrlrbrererererertr rfl ?_
    refine run_region rfl ?_
    simp only [sX, simprocAttr, -List.reduceReplicate, g2]
    refine call_of (pick_ok rn 3 (by decide) (by decide) _ _) ?_
    rintro v H2 ⟨rfl, hh⟩
    subst hh
    simp only [sX, simprocAttr, -List.reduceReplicate, hx3]
    refine call_of (hs3 _ _) ?_
    rintro v H2 ⟨rfl, hh⟩
    subst hh
    unfold reV
    simp only [sX, simprocAttr, -List.reduceReplicate, List.toList_toArray]
    refine run_ret rfl ?_
    (simp only [sP]; refine ⟨_, (by rw [resultsA_eq Try.results5]; simp only [sR, List.mapM_cons, List.mapM_nil, if_true, Nat.reduceAdd]; rfl), ?_⟩)
    exact gotT_leaf _ _ g01 1 s3 d
  · (refine call_intro fun5 name5 body5 ?_; simp only [Try.ntmps5, List.map_cons, List.map_nil, List.length_cons, List.length_nil, Nat.zero_add, Nat.reduceAdd, Nat.reduceSub, List.replicate_succ, List.replicate_zero, List.cons_append, List.nil_append])
    refine rS c5_l c5_r rfl ?_
    refine run_region rfl ?_
    simp only [sX, simprocAttr, -List.reduceReplicate, hsl, List.toList_toArray]
    refine rS c5_rl c5_rr rfl ?_
    refine run_region rfl ?_
    simp only [sX, simprocAttr, -List.reduceReplicate, g2]
    refine call_of (pick_ok rk 12 (by decide) (by decide) _ _) ?_
    rintro v H2 ⟨rfl, hh⟩
    subst hh
    rw [hk]
    simp only [sX, simprocAttr, -List.reduceReplicate]
    refine rS c5_rrl c5_rrr rfl ?_
    refine run_region rfl ?_
    simp only [sX, simprocAttr, -List.reduceReplicate, exe_makeFunc, hf]
    refine rS c5_rrrl c5_rrrr rfl ?_
    refine rS c5_rrrll c5_rrrlr rfl ?_
    refine run_regionG rfl c5_rrrll_gs ?_
    simp only [sX, simprocAttr, -List.reduceReplicate, g3, e0]
    refine rT c5_rrrlrt c5_rrrlre rfl rfl ?_
    refine run_region rfl ?_
    simp only [sX, simprocAttr, -List.reduceReplicate]
    refine rS c5_rrrrl c5_rrrrr rfl ?_
    refine rS c5_rrrrll c5_rrrrlr rfl ?_
    refine run_region rfl ?_
    simp only [sX, simprocAttr, -List.reduceReplicate]
    refine run_block (b := c5_rrrrlrb) rfl ?_
    refine rS c5_rrrrlrbl c5_rrrrlrbr rfl ?_
    refine rS c5_rrrrlrbll c5_rrrrlrblr rfl ?_
    refine run_region rfl ?_
    simp only [sX, simprocAttr, -List.reduceReplicate]
    refine rF c5_rrrrlrblrt c5_rrrrlrblre rfl rfl ?_
    refine run_region rfl ?_
    simp only [sX, simprocAttr, -List.reduceReplicate]
    refine rF c5_rrrrlrbrt c5_rrrrlrbre rfl rfl ?_
    refine rS c5_rrrrlrbrel c5_rrrrlrbrer rfl ?_
    refine rS c5_rrrrlrbrell c5_rrrrlrbrelr rfl ?_
    refine run_region rfl ?_
    simp only [sX, simprocAttr, -List.reduceReplicate]
    refine rF c5_rrrrlrbrelrt c5_rrrrlrbrelre rfl rfl ?_
    refine run_region rfl ?_
    simp only [sX, simprocAttr, -List.reduceReplicate]
    refine rF c5_rrrrlrbrert c5_rrrrlrbrere rfl rfl ?_
    refine rS c5_rrrrlrbrerel c5_rrrrlrbrerer rfl ?_
    refine run_region rfl ?_
    simp only [sX, simprocAttr, -List.reduceReplicate]
    refine rF c5_rrrrlrbrerert c5_rrrrlrbrerere rfl rfl ?_
    refine rS c5_rrrrlrbrererel c5_rrrrlrbrererer rfl ?_
    refine run_region rfl ?_
    simp only [sX, simprocAttr, -List.reduceReplicate]
    refine rF c5_rrrrlrbrererert c5_rrrrlrbrererere rfl rfl ?_
    refine rS c5_rrrrlrbrerererel c5_rrrrlrbrerererer rfl ?_
    refine run_region rfl ?_
    simp only [sX, simprocAttr, -List.reduceReplicate]
    refine rF c5_rrrrlrbrerererert c5_rrrrlrbrerererere rfl rfl ?_
    refine rS c5_rrrrlrbrererererel c5_rrrrlrbrererererer rfl ?_
    refine rS c5_rrrrlrbrererererell c5_rrrrlrbrererererelr rfl ?_
    refine run_region rfl ?_
    simp only [sX, simprocAttr, -List.reduceReplicate]
    refine rT c5_rrrrlrbrererererelrt c5_rrrrlrbrererererelre rfl rfl ?_
    refine run_skip rfl ?_
    simp only [sP]
    refine rT c5_rrrrlrbrererererert c5_rrrrlrbrererererere rfl rfl ?_
    refine rS c5_rrrrlrbrererererertl c5_rrrrlrbrererererertr rfl ?_
    refine run_region rfl ?_
    simp only [sX, simprocAttr, -List.reduceReplicate, g2]
    refine call_of (pick_ok rn 3 (by decide) (by decide) _ _) ?_
    rintro v H2 ⟨rfl, hh⟩
    subst hh
    simp only [sX, simprocAttr, -List.reduceReplicate, hx3]
    refine call_of (hs3 _ _) ?_
    rintro v H2 ⟨rfl, hh⟩
    subst hh
    unfold reV
    simp only [sX, simprocAttr, -List.reduceReplicate, List.toList_toArray]
    refine run_ret rfl ?_
    (simp only [sP]; refine ⟨_, (by rw [resultsA_eq Try.results5]; simp only [sR, List.mapM_cons, List.mapM_nil, if_true, Nat.reduceAdd]; rfl), ?_⟩)
    exact gotT_leaf _ _ g01 1 s3 d
  · (refine call_intro fun5 name5 body5 ?_; simp only [Try.ntmps5, List.map_cons, List.map_nil, List.length_cons, List.length_nil, Nat.zero_add, Nat.reduceAdd, Nat.reduceSub, List.replicate_succ, List.replicate_zero, List.cons_append, List.nil_append])
    refine rS c5_l c5_r rfl ?_
    refine run_region rfl ?_
    simp only [sX, simprocAttr, -List.reduceReplicate, hsl, List.toList_toArray]
    refine rS c5_rl c5_rr rfl ?_
    refine run_region rfl ?_
    simp only [sX, simprocAttr, -List.reduceReplicate, g2]
    refine call_of (pick_ok rk 12 (by decide) (by decide) _ _) ?_
    rintro v H2 ⟨rfl, hh⟩
    subst hh
    rw [hk]
    simp only [sX, simprocAttr, -List.reduceReplicate]
    refine rS c5_rrl c5_rrr rfl ?_
    refine run_region rfl ?_
    simp only [sX, simprocAttr, -List.reduceReplicate, exe_makeFunc, hf]
    refine rS c5_rrrl c5_rrrr rfl ?_
    refine rS c5_rrrll c5_rrrlr rfl ?_
    refine run_regionG rfl c5_rrrll_gs ?_
    simp only [sX, simprocAttr, -List.reduceReplicate, g3, e0]
    refine rT c5_rrrlrt c5_rrrlre rfl rfl ?_
    refine run_region rfl ?_
    simp only [sX, simprocAttr, -List.reduceReplicate]
    refine rS c5_rrrrl c5_rrrrr rfl ?_
    refine rS c5_rrrrll c5_rrrrlr rfl ?_
    refine run_region rfl ?_
    simp only [sX, simprocAttr, -List.reduceReplicate]
    refine run_block (b := c5_rrrrlrb) rfl ?_
    refine rS c5_rrrrlrbl c5_rrrrlrbr rfl ?_
    refine rS c5_rrrrlrbll c5_rrrrlrblr rfl ?_
    refine run_region rfl ?_
    simp only [sX, simprocAttr, -List.reduceReplicate]
    refine rF c5_rrrrlrblrt c5_rrrrlrblre rfl rfl ?_
    refine run_region rfl ?_
    simp only [sX, simprocAttr, -List.reduceReplicate]
    refine rF c5_rrrrlrbrt c5_rrrrlrbre rfl rfl ?_
    refine rS c5_rrrrlrbrel c5_rrrrlrbrer rfl ?_
    refine rS c5_rrrrlrbrell c5_rrrrlrbrelr rfl ?_
    refine run_region rfl ?_
    simp only [sX, simprocAttr, -List.reduceReplicate]
    refine rF c5_rrrrlrbrelrt c5_rrrrlrbrelre rfl rfl ?_
    refine run_region rfl ?_
    simp only [sX, simprocAttr, -List.reduceReplicate]
    refine rF c5_rrrrlrbrert c5_rrrrlrbrere rfl rfl ?_
    refine rS c5_rrrrlrbrerel c5_rrrrlrbrerer rfl ?_
    refine run_region rfl ?_
    simp only [sX, simprocAttr, -List.reduceReplicate]
    refine rF c5_rrrrlrbrerert c5_rrrrlrbrerere rfl rfl ?_
    refine rS c5_rrrrlrbrererel c5_rrrrlrbrererer rfl ?_
    refine run_region rfl ?_
    simp only [sX, simprocAttr, -List.reduceReplicate]
    refine rF c5_rrrrlrbrererert c5_rrrrlrbrererere rfl rfl ?_
    refine rS c5_rrrrlrbrerererel c5_rrrrlrbrerererer rfl ?_
    refine run_region rfl ?_
    simp only [sX, simprocAttr, -List.reduceReplicate]
    refine rF c5_rrrrlrbrerererert c5_rrrrlrbrerererere rfl rfl ?_
    refine rS c5_rrrrlrbrererererel c5_rrrrlrbrererererer rfl ?_
    refine rS c5_rrrrlrbrererererell c5_rrrrlrbrererererelr rfl ?_
    refine run_region rfl ?_
    simp only [sX, simprocAttr, -List.reduceReplicate]
    refine rT c5_rrrrlrbrererererelrt c5_rrrrlrbrererererelre rfl rfl ?_
    refine run_skip rfl ?_
    simp only [sP]
    refine rT c5_rrrrlrbrererererert c5_rrrrlrbrererererere rfl rfl ?_
    refine rS c5_rrrrlrbrererererertl c5_rrrrlrbrererererertr rfl ?_
    refine run_region rfl ?_
    simp only [sX, simprocAttr, -List.reduceReplicate, g2]
    refine call_of (pick_ok rn 3 (by decide) (by decide) _ _) ?_
    rintro v H2 ⟨rfl, hh⟩
    subst hh
    simp only [sX, simprocAttr, -List.reduceReplicate, hx3]
    refine call_of (hs3 _ _) ?_
    rintro v H2 ⟨rfl, hh⟩
    subst hh
    unfold reV
    simp only [sX, simprocAttr, -List.reduceReplicate, List.toList_toArray]
    refine run_ret rfl ?_
    (simp only [sP]; refine ⟨_, (by rw [resultsA_eq Try.results5]; simp only [sR, List.mapM_cons, List.mapM_nil, if_true, Nat.reduceAdd]; rfl), ?_⟩)
    exact gotT_leaf _ _ g01 1 s3 d
  · (refine call_intro fun5 name5 body5 ?_; simp only [Try.ntmps5, List.map_cons, List.map_nil, List.length_cons, List.length_nil, Nat.zero_add, Nat.reduceAdd, Nat.reduceSub, List.replicate_succ, List.replicate_zero, List.cons_append, List.nil_append])
    refine rS c5_l c5_r rfl ?_
    refine run_region rfl ?_
    simp only [sX, simprocAttr, -List.reduceReplicate, hsl, List.toList_toArray]
    refine rS c5_rl c5_rr rfl ?_
    refine run_region rfl ?_
    simp only [sX, simprocAttr, -List.reduceReplicate, g2]
    refine call_of (pick_ok rk 12 (by decide) (by decide) _ _) ?_
    rintro v H2 ⟨rfl, hh⟩
    subst hh
    rw [hk]
    simp only [sX, simprocAttr, -List.reduceReplicate]
    refine rS c5_rrl c5_rrr rfl ?_
    refine run_region rfl ?_
    simp only [sX, simprocAttr, -List.reduceReplicate, exe_makeFunc, hf]
    refine rS c5_rrrl c5_rrrr rfl ?_
    refine rS c5_rrrll c5_rrrlr rfl ?_
    refine run_regionG rfl c5_rrrll_gs ?_
    simp only [sX, simprocAttr, -List.reduceReplicate, g3, e0]
    refine rT c5_rrrlrt c5_rrrlre rfl rfl ?_
    refine run_region rfl ?_
    simp only [sX, simprocAttr, -List.reduceReplicate]
    refine rS c5_rrrrl c5_rrrrr rfl ?_
    refine rS c5_rrrrll c5_rrrrlr rfl ?_
    refine run_region rfl ?_
    simp only [sX, simprocAttr, -List.reduceReplicate]
    refine run_block (b := c5_rrrrlrb) rfl ?_
    refine rS c5_rrrrlrbl c5_rrrrlrbr rfl ?_
    refine rS c5_rrrrlrbll c5_rrrrlrblr rfl ?_
    refine run_region rfl ?_
    simp only [sX, simprocAttr, -List.reduceReplicate]
    refine rF c5_rrrrlrblrt c5_rrrrlrblre rfl rfl ?_
    refine run_region rfl ?_
    simp only [sX, simprocAttr, -List.reduceReplicate]
    refine rF c5_rrrrlrbrt c5_rrrrlrbre rfl rfl ?_
    refine rS c5_rrrrlrbrel c5_rrrrlrbrer rfl ?_
    refine rS c5_rrrrlrbrell c5_rrrrlrbrelr rfl ?_
    refine run_region rfl ?_
    simp only [sX, simprocAttr, -List.reduceReplicate]
    refine rF c5_rrrrlrbrelrt c5_rrrrlrbrelre rfl rfl ?_
    refine run_region rfl ?_
    simp only [sX, simprocAttr, -List.reduceReplicate]
    refine rF c5_rrrrlrbrert c5_rrrrlrbrere rfl rfl ?_
    refine rS c5_rrrrlrbrerel c5_rrrrlrbrerer rfl ?_
    refine run_region rfl ?_
    simp only [sX, simprocAttr, -List.reduceReplicate]
    refine rF c5_rrrrlrbrerert c5_rrrrlrbrerere rfl rfl ?_
    refine rS c5_rrrrlrbrererel c5_rrrrlrbrererer rfl ?_
    refine run_region rfl ?_
    simp only [sX, simprocAttr, -List.reduceReplicate]
    refine rF c5_rrrrlrbrererert c5_rrrrlrbrererere rfl rfl ?_
    refine rS c5_rrrrlrbrerererel c5_rrrrlrbrerererer rfl ?_
    refine run_region rfl ?_
    simp only [sX, simprocAttr, -List.reduceReplicate]
    refine rF c5_rrrrlrbrerererert c5_rrrrlrbrerererere rfl rfl ?_
    refine rS c5_rrrrlrbrererererel c5_rrrrlrbrererererer rfl ?_
    refine rS c5_rrrrlrbrererererell c5_rrrrlrbrererererelr rfl ?_
    refine run_region rfl ?_
    simp only [sX, simprocAttr, -List.reduceReplicate]
    refine rT c5_rrrrlrbrererererelrt c5_rrrrlrbrererererelre rfl rfl ?_
    refine run_skip rfl ?_
    simp only [sP]
    refine rT c5_rrrrlrbrererererert c5_rrrrlrbrererererere rfl rfl ?_
    refine rS c5_rrrrlrbrererererertl c5_rrrrlrbrererererertr rfl ?_
    refine run_region rfl ?_
    simp only [sX, simprocAttr, -List.reduceReplicate, g2]
    refine call_of (pick_ok rn 3 (by decide) (by decide) _ _) ?_
    rintro v H2 ⟨rfl, hh⟩
    subst hh
    simp only [sX, simprocAttr, -List.reduceReplicate, hx3]
    refine call_of (hs3 _ _) ?_
    rintro v H2 ⟨rfl, hh⟩
    subst hh
    unfold reV
    simp only [sX, simprocAttr, -List.reduceReplicate, List.toList_toArray]
    refine run_ret rfl ?_
    (simp only [sP]; refine ⟨_, (by rw [resultsA_eq Try.results5]; simp only [sR, List.mapM_cons, List.mapM_nil, if_true, Nat.reduceAdd]; rfl), ?_⟩)
    exact gotT_leaf _ _ g01 1 s3 d
  · (refine call_intro fun5 name5 body5 ?_; simp only [Try.ntmps5, List.map_cons, List.map_nil, List.length_cons, List.length_nil, Nat.zero_add, Nat.reduceAdd, Nat.reduceSub, List.replicate_succ, List.replicate_zero, List.cons_append, List.nil_append])
    refine rS c5_l c5_r rfl ?_
    refine run_region rfl ?_
    simp only [sX, simprocAttr, -List.reduceReplicate, hsl, List.toList_toArray]
    refine rS c5_rl c5_rr rfl ?_
    refine run_region rfl ?_
    simp only [sX, simprocAttr, -List.reduceReplicate, g2]
    refine call_of (pick_ok rk 12 (by decide) (by decide) _ _) ?_
    rintro v H2 ⟨rfl, hh⟩
    subst hh
    rw [hk]
    simp only [sX, simprocAttr, -List.reduceReplicate]
    refine rS c5_rrl c5_rrr rfl ?_
    refine run_region rfl ?_
    simp only [sX, simprocAttr, -List.reduceReplicate, exe_makeFunc, hf]
    refine rS c5_rrrl c5_rrrr rfl ?_
    refine rS c5_rrrll c5_rrrlr rfl ?_
    refine run_regionG rfl c5_rrrll_gs ?_
    simp only [sX, simprocAttr, -List.reduceReplicate, g3, e0]
    refine rT c5_rrrlrt c5_rrrlre rfl rfl ?_
    refine run_region rfl ?_
    simp only [sX, simprocAttr, -List.reduceReplicate]
    refine rS c5_rrrrl c5_rrrrr rfl ?_
    refine rS c5_rrrrll c5_rrrrlr rfl ?_
    refine run_region rfl ?_
    simp only [sX, simprocAttr, -List.reduceReplicate]
    refine run_block (b := c5_rrrrlrb) rfl ?_
    refine rS c5_rrrrlrbl c5_rrrrlrbr rfl ?_
    refine rS c5_rrrrlrbll c5_rrrrlrblr rfl ?_
    refine run_region rfl ?_
    simp only [sX, simprocAttr, -List.reduceReplicate]
    refine rF c5_rrrrlrblrt c5_rrrrlrblre rfl rfl ?_
    refine run_region rfl ?_
    simp only [sX, simprocAttr, -List.reduceReplicate]
    refine rF c5_rrrrlrbrt c5_rrrrlrbre rfl rfl ?_
    refine rS c5_rrrrlrbrel c5_rrrrlrbrer rfl ?_
    refine rS c5_rrrrlrbrell c5_rrrrlrbrelr rfl ?_
    refine run_region rfl ?_
    simp only [sX, simprocAttr, -List.reduceReplicate]
    refine rF c5_rrrrlrbrelrt c5_rrrrlrbrelre rfl rfl ?_
    refine run_region rfl ?_
    simp only [sX, simprocAttr, -List.reduceReplicate]
    refine rF c5_rrrrlrbrert c5_rrrrlrbrere rfl rfl ?_
    refine rS c5_rrrrlrbrerel c5_rrrrlrbrerer rfl ?_
    refine run_region rfl ?_
    simp only [sX, simprocAttr, -List.reduceReplicate]
    refine rF c5_rrrrlrbrerert c5_rrrrlrbrerere rfl rfl ?_
    refine rS c5_rrrrlrbrererel c5_rrrrlrbrererer rfl ?_
    refine run_region rfl ?_
    simp only [sX, simprocAttr, -List.reduceReplicate]
    refine rF c5_rrrrlrbrererert c5_rrrrlrbrererere rfl rfl ?_
    refine rS c5_rrrrlrbrerererel c5_rrrrlrbrerererer rfl ?_
    refine run_region rfl ?_
    simp only [sX, simprocAttr, -List.reduceReplicate]
    refine rF c5_rrrrlrbrerererert c5_rrrrlrbrerererere rfl rfl ?_
    refine rS c5_rrrrlrbrererererel c5_rrrrlrbrererererer rfl ?_
    refine rS c5_rrrrlrbrererererell c5_rrrrlrbrererererelr rfl ?_
    refine run_region rfl ?_
    simp only [sX, simprocAttr, -List.reduceReplicate]
    refine rT c5_rrrrlrbrererererelrt c5_rrrrlrbrererererelre rfl rfl ?_
    refine run_skip rfl ?_
    simp only [sP]
    refine rT c5_rrrrlrbrererererert c5_rrrrlrbrererererere rfl rfl ?_
    refine rS c5_rrrrlrbrererererertl c5_rrrrlrbrererererertr rfl ?_
    refine run_region rfl ?_
    simp only [sX, simprocAttr, -List.reduceReplicate, g2]
    refine call_of (pick_ok rn 3 (by decide) (by decide) _ _) ?_
    rintro v H2 ⟨rfl, hh⟩
    subst hh
    simp only [sX, simprocAttr, -List.reduceReplicate, hx3]
    refine call_of (hs3 _ _) ?_
    rintro v H2 ⟨rfl, hh⟩
    subst hh
    unfold reV
    simp only [sX, simprocAttr, -List.reduceReplicate, List.toList_toArray]
    refine run_ret rfl ?_
    (simp only [sP]; refine ⟨_, (by rw [resultsA_eq Try.results5]; simp only [sR, List.mapM_cons, List.mapM_nil, if_true, Nat.reduceAdd]; rfl), ?_⟩)
    exact gotT_leaf _ _ g01 1 s3 d

theorem re_head (d : Nat) (hd : d ≤ 100) (ih : ∀ d', d = d' + 1 → RePost d') : RePost d := by
  by_cases h : 1 ≤ d
  · exact re_pos d h hd ih
  · exact re_zero d (by omega) hd
theorem re_ok : ∀ (d : Nat), d ≤ 100 → RePost d := by
  intro d
  induction d with
  | zero => exact fun hd => re_head 0 hd (fun d' h => by omega)
  | succ d ih => exact fun hd => re_head (d + 1) hd (fun d' h => by have h' : d' = d := (by omega); subst h'; exact ih (by omega))
end Go.Proofs.Ytmgofjgfmcmceaa
end
