/- Trees' texts, as the program prints them. Sets by their bytes; what is printed of any right tree is read as it. Parse, of what is printed. Rules for new slices, copies, parts of texts, truth values. either. Plain. A step over a set of bytes. star: as often as one likes. Steps and stars of all right trees. -/
import Derived.Test.YtmgofjgfmcmceaaF9
section
namespace Go.Proofs.Ytmgofjgfmcmceaa
open Go.RowKit
set_option maxRecDepth 4000
set_option maxHeartbeats 2000000

theorem sadd (a b : List UInt8) (h : a.length + b.length ≤ 9223372036854775807) : ∀ x y, binR X.P .add 9 x y (.string (bs a)) (.string (bs b)) = some (.string (bs (a ++ b))) := fun x y => by
  rw [← bs_app]; exact bin_sadd (by rw [bs_size, bs_size]; exact h)
/-- What text answers. -/
def TX (T : Tr) : Prop := ∀ (lim : Nat) (H : Hp) (S : Nat → Prop) (p : Option Addr) (n : Nat), IsRe H S T (reC T.k T.s p n) → T.txt.length ≤ 4611686018427387904 →
    CallEx X lim 17 [reV T.k T.s p n] H fun v H1 => v = .string (bs T.txt) ∧ Gr H H1
theorem tx_empty : TX (.node 0 S4.z []) := by
  intro lim H S p n hI hsz
  obtain ⟨rfl, rfl⟩ := hI.inv0
  have ht : (Tr.node 0 S4.z []).txt = [40, 46, 63, 41, 123, 48, 125] := by simp [Tr.txt]
  rw [ht]
  unfold reV Tr.k Tr.s
  (refine call_intro fun17 name17 body17 ?_; simp only [Try.ntmps17, List.map_cons, List.map_nil, List.length_cons, List.length_nil, Nat.zero_add, Nat.reduceSub, List.replicate_succ, List.replicate_zero, List.cons_append, List.nil_append])
  refine rS c17_l c17_r rfl ?_
  refine run_region rfl ?_
  simp only [sX, simprocAttr, -List.reduceReplicate]
  refine rS c17_rl c17_rr rfl ?_
  refine rS c17_rll c17_rlr rfl ?_
  refine run_region rfl ?_
  simp only [sX, simprocAttr, -List.reduceReplicate]
  refine run_block (b := c17_rlrb) rfl ?_
  refine rS c17_rlrbl c17_rlrbr rfl ?_
  refine run_region rfl ?_
  simp only [sX, simprocAttr, -List.reduceReplicate]
  refine rT c17_rlrbrt c17_rlrbre rfl rfl ?_
  refine rS c17_rlrbrtl c17_rlrbrtr rfl ?_
  refine run_region rfl ?_
  simp only [sX, simprocAttr, -List.reduceReplicate]
  refine run_ret rfl ?_
  (simp only [sP]; refine ⟨_, (by rw [resultsA_eq Try.results17]; simp only [sR, List.mapM_cons, List.mapM_nil]; rfl), ?_⟩)
  exact ⟨rfl, Gr.refl _⟩
theorem tx_first : TX (.node 7 S4.z []) := by
  intro lim H S p n hI hsz
  obtain ⟨rfl, rfl⟩ := hI.inv0
  have ht : (Tr.node 7 S4.z []).txt = [94] := by simp [Tr.txt]
  rw [ht]
  unfold reV Tr.k Tr.s
  (refine call_intro fun17 name17 body17 ?_; simp only [Try.ntmps17, List.map_cons, List.map_nil, List.length_cons, List.length_nil, Nat.zero_add, Nat.reduceSub, List.replicate_succ, List.replicate_zero, List.cons_append, List.nil_append])
  refine rS c17_l c17_r rfl ?_
  refine run_region rfl ?_
  simp only [sX, simprocAttr, -List.reduceReplicate]
  refine rS c17_rl c17_rr rfl ?_
  refine rS c17_rll c17_rlr rfl ?_
  refine run_region rfl ?_
  simp only [sX, simprocAttr, -List.reduceReplicate]
  refine run_block (b := c17_rlrb) rfl ?_
  refine rS c17_rlrbl c17_rlrbr rfl ?_
  refine run_region rfl ?_
  simp only [sX, simprocAttr, -List.reduceReplicate]
  refine rF c17_rlrbrt c17_rlrbre rfl rfl ?_
  refine rS c17_rlrbrel c17_rlrbrer rfl ?_
  refine run_region rfl ?_
  simp only [sX, simprocAttr, -List.reduceReplicate]
  refine rF c17_rlrbrert c17_rlrbrere rfl rfl ?_
  refine rS c17_rlrbrerel c17_rlrbrerer rfl ?_
  refine run_region rfl ?_
  simp only [sX, simprocAttr, -List.reduceReplicate]
  refine rF c17_rlrbrerert c17_rlrbrerere rfl rfl ?_
  refine rS c17_rlrbrererel c17_rlrbrererer rfl ?_
  refine run_region rfl ?_
  simp only [sX, simprocAttr, -List.reduceReplicate]
  refine rF c17_rlrbrererert c17_rlrbrererere rfl rfl ?_
  refine rS c17_rlrbrerererel c17_rlrbrerererer rfl ?_
  refine run_region rfl ?_
  simp only [sX, simprocAttr, -List.reduceReplicate]
  refine rF c17_rlrbrerererert c17_rlrbrerererere rfl rfl ?_
  refine rS c17_rlrbrererererel c17_rlrbrererererer rfl ?_
  refine run_region rfl ?_
  simp only [sX, simprocAttr, -List.reduceReplicate]
  refine rF c17_rlrbrererererert c17_rlrbrererererere rfl rfl ?_
  refine rS c17_rlrbrerererererel c17_rlrbrerererererer rfl ?_
  refine run_region rfl ?_
  simp only [sX, simprocAttr, -List.reduceReplicate]
  refine rF c17_rlrbrerererererert c17_rlrbrerererererere rfl rfl ?_
  refine rS c17_rlrbrererererererel c17_rlrbrererererererer rfl ?_
  refine run_region rfl ?_
  simp only [sX, simprocAttr, -List.reduceReplicate]
  refine rT c17_rlrbrererererererert c17_rlrbrererererererere rfl rfl ?_
  refine rS c17_rlrbrererererererertl c17_rlrbrererererererertr rfl ?_
  refine run_region rfl ?_
  simp only [sX, simprocAttr, -List.reduceReplicate]
  refine run_ret rfl ?_
  (simp only [sP]; refine ⟨_, (by rw [resultsA_eq Try.results17]; simp only [sR, List.mapM_cons, List.mapM_nil]; rfl), ?_⟩)
  exact ⟨rfl, Gr.refl _⟩
theorem tx_last : TX (.node 8 S4.z []) := by
  intro lim H S p n hI hsz
  obtain ⟨rfl, rfl⟩ := hI.inv0
  have ht : (Tr.node 8 S4.z []).txt = [36] := by simp [Tr.txt]
  rw [ht]
  unfold reV Tr.k Tr.s
  (refine call_intro fun17 name17 body17 ?_; simp only [Try.ntmps17, List.map_cons, List.map_nil, List.length_cons, List.length_nil, Nat.zero_add, Nat.reduceSub, List.replicate_succ, List.replicate_zero, List.cons_append, List.nil_append])
  refine rS c17_l c17_r rfl ?_
  refine run_region rfl ?_
  simp only [sX, simprocAttr, -List.reduceReplicate]
  refine rS c17_rl c17_rr rfl ?_
  refine rS c17_rll c17_rlr rfl ?_
  refine run_region rfl ?_
  simp only [sX, simprocAttr, -List.reduceReplicate]
  refine run_block (b := c17_rlrb) rfl ?_
  refine rS c17_rlrbl c17_rlrbr rfl ?_
  refine run_region rfl ?_
  simp only [sX, simprocAttr, -List.reduceReplicate]
  refine rF c17_rlrbrt c17_rlrbre rfl rfl ?_
  refine rS c17_rlrbrel c17_rlrbrer rfl ?_
  refine run_region rfl ?_
  simp only [sX, simprocAttr, -List.reduceReplicate]
  refine rF c17_rlrbrert c17_rlrbrere rfl rfl ?_
  refine rS c17_rlrbrerel c17_rlrbrerer rfl ?_
  refine run_region rfl ?_
  simp only [sX, simprocAttr, -List.reduceReplicate]
  refine rF c17_rlrbrerert c17_rlrbrerere rfl rfl ?_
  refine rS c17_rlrbrererel c17_rlrbrererer rfl ?_
  refine run_region rfl ?_
  simp only [sX, simprocAttr, -List.reduceReplicate]
  refine rF c17_rlrbrererert c17_rlrbrererere rfl rfl ?_
  refine rS c17_rlrbrerererel c17_rlrbrerererer rfl ?_
  refine run_region rfl ?_
  simp only [sX, simprocAttr, -List.reduceReplicate]
  refine rF c17_rlrbrerererert c17_rlrbrerererere rfl rfl ?_
  refine rS c17_rlrbrererererel c17_rlrbrererererer rfl ?_
  refine run_region rfl ?_
  simp only [sX, simprocAttr, -List.reduceReplicate]
  refine rF c17_rlrbrererererert c17_rlrbrererererere rfl rfl ?_
  refine rS c17_rlrbrerererererel c17_rlrbrerererererer rfl ?_
  refine run_region rfl ?_
  simp only [sX, simprocAttr, -List.reduceReplicate]
  refine rF c17_rlrbrerererererert c17_rlrbrerererererere rfl rfl ?_
  refine rS c17_rlrbrererererererel c17_rlrbrererererererer rfl ?_
  refine run_region rfl ?_
  simp only [sX, simprocAttr, -List.reduceReplicate]
  refine rF c17_rlrbrererererererert c17_rlrbrererererererere rfl rfl ?_
  refine run_skip rfl ?_
  simp only [sP]
  refine rS c17_rrl c17_rrr rfl ?_
  refine run_region rfl ?_
  simp only [sX, simprocAttr, -List.reduceReplicate]
  refine run_ret rfl ?_
  (simp only [sP]; refine ⟨_, (by rw [resultsA_eq Try.results17]; simp only [sR, List.mapM_cons, List.mapM_nil]; rfl), ?_⟩)
  exact ⟨rfl, Gr.refl _⟩
theorem tx_set (s : S4) : TX (.node 1 s []) := by
  intro lim H S p n hI hsz
  obtain ⟨rfl, rfl⟩ := hI.inv0
  have ht : (Tr.node 1 s []).txt = setT s := by simp [Tr.txt]
  rw [ht]
  have hc := fun lim H => setT_ok lim H s
  unfold setV at hc
  unfold reV Tr.k Tr.s
  (refine call_intro fun17 name17 body17 ?_; simp only [Try.ntmps17, List.map_cons, List.map_nil, List.length_cons, List.length_nil, Nat.zero_add, Nat.reduceSub, List.replicate_succ, List.replicate_zero, List.cons_append, List.nil_append])
  refine rS c17_l c17_r rfl ?_
  refine run_region rfl ?_
  simp only [sX, simprocAttr, -List.reduceReplicate]
  refine rS c17_rl c17_rr rfl ?_
  refine rS c17_rll c17_rlr rfl ?_
  refine run_region rfl ?_
  simp only [sX, simprocAttr, -List.reduceReplicate]
  refine run_block (b := c17_rlrb) rfl ?_
  refine rS c17_rlrbl c17_rlrbr rfl ?_
  refine run_region rfl ?_
  simp only [sX, simprocAttr, -List.reduceReplicate]
  refine rF c17_rlrbrt c17_rlrbre rfl rfl ?_
  refine rS c17_rlrbrel c17_rlrbrer rfl ?_
  refine run_region rfl ?_
  simp only [sX, simprocAttr, -List.reduceReplicate]
  refine rT c17_rlrbrert c17_rlrbrere rfl rfl ?_
  refine rS c17_rlrbrertl c17_rlrbrertr rfl ?_
  refine run_region rfl ?_
  simp only [sX, simprocAttr, -List.reduceReplicate]
  refine call_of (hc _ _) ?_
  rintro v H1 ⟨rfl, hg⟩
  simp only [sX, simprocAttr, -List.reduceReplicate]
  refine run_ret rfl ?_
  (simp only [sP]; refine ⟨_, (by rw [resultsA_eq Try.results17]; simp only [sR, List.mapM_cons, List.mapM_nil]; rfl), ?_⟩)
  exact ⟨rfl, hg⟩
theorem tx_star {A : Tr} (ia : TX A) : TX (.node 4 S4.z [A]) := by
  intro lim H S p n hI hsz
  obtain ⟨rfl, bl, wr, p1, rfl, _, ho, ha⟩ := hI.inv1
  have ht := txt_star A
  rw [ht] at hsz ⊢
  simp only [List.length_cons, List.length_append, List.length_nil] at hsz
  have hca := ia lim H S p1 _ ha (by omega)
  unfold reC at ho
  unfold reV at hca ⊢
  have e1 : ∀ x y, binR X.P .add 9 x y (.string ⟨#[40]⟩) (.string (bs A.txt)) = some (.string (bs ([40] ++ A.txt))) := sadd [40] A.txt (by simp; omega)
  have e2 : ∀ x y, binR X.P .add 9 x y (.string (bs ([40] ++ A.txt))) (.string ⟨#[41, 42]⟩) = some (.string (bs ([40] ++ A.txt ++ [41, 42]))) := sadd ([40] ++ A.txt) [41, 42] (by simp; omega)
  simp only [List.cons_append, List.nil_append] at e1 e2
  unfold Tr.k Tr.s
  (refine call_intro fun17 name17 body17 ?_; simp only [Try.ntmps17, List.map_cons, List.map_nil, List.length_cons, List.length_nil, Nat.zero_add, Nat.reduceSub, List.replicate_succ, List.replicate_zero, List.cons_append, List.nil_append])
  refine rS c17_l c17_r rfl ?_
  refine run_region rfl ?_
  simp only [sX, simprocAttr, -List.reduceReplicate]
  refine rS c17_rl c17_rr rfl ?_
  refine rS c17_rll c17_rlr rfl ?_
  refine run_region rfl ?_
  simp only [sX, simprocAttr, -List.reduceReplicate]
  refine run_block (b := c17_rlrb) rfl ?_
  refine rS c17_rlrbl c17_rlrbr rfl ?_
  refine run_region rfl ?_
  simp only [sX, simprocAttr, -List.reduceReplicate]
  refine rF c17_rlrbrt c17_rlrbre rfl rfl ?_
  refine rS c17_rlrbrel c17_rlrbrer rfl ?_
  refine run_region rfl ?_
  simp only [sX, simprocAttr, -List.reduceReplicate]
  refine rF c17_rlrbrert c17_rlrbrere rfl rfl ?_
  refine rS c17_rlrbrerel c17_rlrbrerer rfl ?_
  refine run_region rfl ?_
  simp only [sX, simprocAttr, -List.reduceReplicate]
  refine rF c17_rlrbrerert c17_rlrbrerere rfl rfl ?_
  refine rS c17_rlrbrererel c17_rlrbrererer rfl ?_
  refine run_region rfl ?_
  simp only [sX, simprocAttr, -List.reduceReplicate]
  refine rF c17_rlrbrererert c17_rlrbrererere rfl rfl ?_
  refine rS c17_rlrbrerererel c17_rlrbrerererer rfl ?_
  refine run_region rfl ?_
  simp only [sX, simprocAttr, -List.reduceReplicate]
  refine rT c17_rlrbrerererert c17_rlrbrerererere rfl rfl ?_
  refine rS c17_rlrbrerererertl c17_rlrbrerererertr rfl ?_
  refine run_region rfl ?_
  simp only [sX, simprocAttr, -List.reduceReplicate, ho]
  refine call_of hca ?_
  rintro v H1 ⟨rfl, hg⟩
  simp only [sX, simprocAttr, -List.reduceReplicate, e1, e2]
  refine run_ret rfl ?_
  (simp only [sP]; refine ⟨_, (by rw [resultsA_eq Try.results17]; simp only [sR, List.mapM_cons, List.mapM_nil]; rfl), ?_⟩)
  exact ⟨rfl, hg⟩
theorem tx_plus {A : Tr} (ia : TX A) : TX (.node 5 S4.z [A]) := by
  intro lim H S p n hI hsz
  obtain ⟨rfl, bl, wr, p1, rfl, _, ho, ha⟩ := hI.inv1
  have ht := txt_plus A
  rw [ht] at hsz ⊢
  simp only [List.length_cons, List.length_append, List.length_nil] at hsz
  have hca := ia lim H S p1 _ ha (by omega)
  unfold reC at ho
  unfold reV at hca ⊢
  have e1 : ∀ x y, binR X.P .add 9 x y (.string ⟨#[40]⟩) (.string (bs A.txt)) = some (.string (bs ([40] ++ A.txt))) := sadd [40] A.txt (by simp; omega)
  have e2 : ∀ x y, binR X.P .add 9 x y (.string (bs ([40] ++ A.txt))) (.string ⟨#[41, 43]⟩) = some (.string (bs ([40] ++ A.txt ++ [41, 43]))) := sadd ([40] ++ A.txt) [41, 43] (by simp; omega)
  simp only [List.cons_append, List.nil_append] at e1 e2
  unfold Tr.k Tr.s
  (refine call_intro fun17 name17 body17 ?_; simp only [Try.ntmps17, List.map_cons, List.map_nil, List.length_cons, List.length_nil, Nat.zero_add, Nat.reduceSub, List.replicate_succ, List.replicate_zero, List.cons_append, List.nil_append])
  refine rS c17_l c17_r rfl ?_
  refine run_region rfl ?_
  simp only [sX, simprocAttr, -List.reduceReplicate]
  refine rS c17_rl c17_rr rfl ?_
  refine rS c17_rll c17_rlr rfl ?_
  refine run_region rfl ?_
  simp only [sX, simprocAttr, -List.reduceReplicate]
  refine run_block (b := c17_rlrb) rfl ?_
  refine rS c17_rlrbl c17_rlrbr rfl ?_
  refine run_region rfl ?_
  simp only [sX, simprocAttr, -List.reduceReplicate]
  refine rF c17_rlrbrt c17_rlrbre rfl rfl ?_
  refine rS c17_rlrbrel c17_rlrbrer rfl ?_
  refine run_region rfl ?_
  simp only [sX, simprocAttr, -List.reduceReplicate]
  refine rF c17_rlrbrert c17_rlrbrere rfl rfl ?_
  refine rS c17_rlrbrerel c17_rlrbrerer rfl ?_
  refine run_region rfl ?_
  simp only [sX, simprocAttr, -List.reduceReplicate]
  refine rF c17_rlrbrerert c17_rlrbrerere rfl rfl ?_
  refine rS c17_rlrbrererel c17_rlrbrererer rfl ?_
  refine run_region rfl ?_
  simp only [sX, simprocAttr, -List.reduceReplicate]
  refine rF c17_rlrbrererert c17_rlrbrererere rfl rfl ?_
  refine rS c17_rlrbrerererel c17_rlrbrerererer rfl ?_
  refine run_region rfl ?_
  simp only [sX, simprocAttr, -List.reduceReplicate]
  refine rF c17_rlrbrerererert c17_rlrbrerererere rfl rfl ?_
  refine rS c17_rlrbrererererel c17_rlrbrererererer rfl ?_
  refine run_region rfl ?_
  simp only [sX, simprocAttr, -List.reduceReplicate]
  refine rT c17_rlrbrererererert c17_rlrbrererererere rfl rfl ?_
  refine rS c17_rlrbrererererertl c17_rlrbrererererertr rfl ?_
  refine run_region rfl ?_
  simp only [sX, simprocAttr, -List.reduceReplicate, ho]
  refine call_of hca ?_
  rintro v H1 ⟨rfl, hg⟩
  simp only [sX, simprocAttr, -List.reduceReplicate, e1, e2]
  refine run_ret rfl ?_
  (simp only [sP]; refine ⟨_, (by rw [resultsA_eq Try.results17]; simp only [sR, List.mapM_cons, List.mapM_nil]; rfl), ?_⟩)
  exact ⟨rfl, hg⟩
theorem tx_opt {A : Tr} (ia : TX A) : TX (.node 6 S4.z [A]) := by
  intro lim H S p n hI hsz
  obtain ⟨rfl, bl, wr, p1, rfl, _, ho, ha⟩ := hI.inv1
  have ht := txt_opt A
  rw [ht] at hsz ⊢
  simp only [List.length_cons, List.length_append, List.length_nil] at hsz
  have hca := ia lim H S p1 _ ha (by omega)
  unfold reC at ho
  unfold reV at hca ⊢
  have e1 : ∀ x y, binR X.P .add 9 x y (.string ⟨#[40]⟩) (.string (bs A.txt)) = some (.string (bs ([40] ++ A.txt))) := sadd [40] A.txt (by simp; omega)
  have e2 : ∀ x y, binR X.P .add 9 x y (.string (bs ([40] ++ A.txt))) (.string ⟨#[41, 63]⟩) = some (.string (bs ([40] ++ A.txt ++ [41, 63]))) := sadd ([40] ++ A.txt) [41, 63] (by simp; omega)
  simp only [List.cons_append, List.nil_append] at e1 e2
  unfold Tr.k Tr.s
  (refine call_intro fun17 name17 body17 ?_; simp only [Try.ntmps17, List.map_cons, List.map_nil, List.length_cons, List.length_nil, Nat.zero_add, Nat.reduceSub, List.replicate_succ, List.replicate_zero, List.cons_append, List.nil_append])
  refine rS c17_l c17_r rfl ?_
  refine run_region rfl ?_
  simp only [sX, simprocAttr, -List.reduceReplicate]
  refine rS c17_rl c17_rr rfl ?_
  refine rS c17_rll c17_rlr rfl ?_
  refine run_region rfl ?_
  simp only [sX, simprocAttr, -List.reduceReplicate]
  refine run_block (b := c17_rlrb) rfl ?_
  refine rS c17_rlrbl c17_rlrbr rfl ?_
  refine run_region rfl ?_
  simp only [sX, simprocAttr, -List.reduceReplicate]
  refine rF c17_rlrbrt c17_rlrbre rfl rfl ?_
  refine rS c17_rlrbrel c17_rlrbrer rfl ?_
  refine run_region rfl ?_
  simp only [sX, simprocAttr, -List.reduceReplicate]
  refine rF c17_rlrbrert c17_rlrbrere rfl rfl ?_
  refine rS c17_rlrbrerel c17_rlrbrerer rfl ?_
  refine run_region rfl ?_
  simp only [sX, simprocAttr, -List.reduceReplicate]
  refine rF c17_rlrbrerert c17_rlrbrerere rfl rfl ?_
  refine rS c17_rlrbrererel c17_rlrbrererer rfl ?_
  refine run_region rfl ?_
  simp only [sX, simprocAttr, -List.reduceReplicate]
  refine rF c17_rlrbrererert c17_rlrbrererere rfl rfl ?_
  refine rS c17_rlrbrerererel c17_rlrbrerererer rfl ?_
  refine run_region rfl ?_
  simp only [sX, simprocAttr, -List.reduceReplicate]
  refine rF c17_rlrbrerererert c17_rlrbrerererere rfl rfl ?_
  refine rS c17_rlrbrererererel c17_rlrbrererererer rfl ?_
  refine run_region rfl ?_
  simp only [sX, simprocAttr, -List.reduceReplicate]
  refine rF c17_rlrbrererererert c17_rlrbrererererere rfl rfl ?_
  refine rS c17_rlrbrerererererel c17_rlrbrerererererer rfl ?_
  refine run_region rfl ?_
  simp only [sX, simprocAttr, -List.reduceReplicate]
  refine rT c17_rlrbrerererererert c17_rlrbrerererererere rfl rfl ?_
  refine rS c17_rlrbrerererererertl c17_rlrbrerererererertr rfl ?_
  refine run_region rfl ?_
  simp only [sX, simprocAttr, -List.reduceReplicate, ho]
  refine call_of hca ?_
  rintro v H1 ⟨rfl, hg⟩
  simp only [sX, simprocAttr, -List.reduceReplicate, e1, e2]
  refine run_ret rfl ?_
  (simp only [sP]; refine ⟨_, (by rw [resultsA_eq Try.results17]; simp only [sR, List.mapM_cons, List.mapM_nil]; rfl), ?_⟩)
  exact ⟨rfl, hg⟩
theorem tx_cat {A B : Tr} (ia : TX A) (ib : TX B) : TX (.node 2 S4.z [A, B]) := by
  intro lim H S p n hI hsz
  obtain ⟨rfl, bl, wr, p1, p2, rfl, _, ho, ha, hb⟩ := hI.inv2
  have ht := txt_cat A B
  rw [ht] at hsz ⊢
  simp only [List.length_cons, List.length_append, List.length_nil] at hsz
  have hca := ia lim H S p1 _ ha (by omega)
  have hcb := fun H1 (hg : Gr H H1) => ib lim H1 S p2 _ (hb.gr hg) (by omega)
  have hbl := getO_lt ho
  unfold reC at ho
  simp only [List.cons_append, List.nil_append] at ho
  unfold reV at hca hcb ⊢
  have e1 : ∀ x y, binR X.P .add 9 x y (.string ⟨#[40]⟩) (.string (bs A.txt)) = some (.string (bs ([40] ++ A.txt))) := sadd [40] A.txt (by simp; omega)
  have e2 : ∀ x y, binR X.P .add 9 x y (.string (bs ([40] ++ A.txt))) (.string ⟨#[41, 40]⟩) = some (.string (bs ([40] ++ A.txt ++ [41, 40]))) := sadd ([40] ++ A.txt) [41, 40] (by simp; omega)
  have e3 : ∀ x y, binR X.P .add 9 x y (.string (bs ([40] ++ A.txt ++ [41, 40]))) (.string (bs B.txt)) = some (.string (bs ([40] ++ A.txt ++ [41, 40] ++ B.txt))) := sadd ([40] ++ A.txt ++ [41, 40]) B.txt (by simp; omega)
  have e4 : ∀ x y, binR X.P .add 9 x y (.string (bs ([40] ++ A.txt ++ [41, 40] ++ B.txt))) (.string ⟨#[41]⟩) = some (.string (bs ([40] ++ A.txt ++ [41, 40] ++ B.txt ++ [41]))) := sadd ([40] ++ A.txt ++ [41, 40] ++ B.txt) [41] (by simp; omega)
  simp only [List.cons_append, List.nil_append] at e1 e2 e3 e4
  unfold Tr.k Tr.s
  (refine call_intro fun17 name17 body17 ?_; simp only [Try.ntmps17, List.map_cons, List.map_nil, List.length_cons, List.length_nil, Nat.zero_add, Nat.reduceSub, List.replicate_succ, List.replicate_zero, List.cons_append, List.nil_append])
  refine rS c17_l c17_r rfl ?_
  refine run_region rfl ?_
  simp only [sX, simprocAttr, -List.reduceReplicate]
  refine rS c17_rl c17_rr rfl ?_
  refine rS c17_rll c17_rlr rfl ?_
  refine run_region rfl ?_
  simp only [sX, simprocAttr, -List.reduceReplicate]
  refine run_block (b := c17_rlrb) rfl ?_
  refine rS c17_rlrbl c17_rlrbr rfl ?_
  refine run_region rfl ?_
  simp only [sX, simprocAttr, -List.reduceReplicate]
  refine rF c17_rlrbrt c17_rlrbre rfl rfl ?_
  refine rS c17_rlrbrel c17_rlrbrer rfl ?_
  refine run_region rfl ?_
  simp only [sX, simprocAttr, -List.reduceReplicate]
  refine rF c17_rlrbrert c17_rlrbrere rfl rfl ?_
  refine rS c17_rlrbrerel c17_rlrbrerer rfl ?_
  refine run_region rfl ?_
  simp only [sX, simprocAttr, -List.reduceReplicate]
  refine rT c17_rlrbrerert c17_rlrbrerere rfl rfl ?_
  refine rS c17_rlrbrerertl c17_rlrbrerertr rfl ?_
  refine run_draw rfl c17_rlrbrerertl_ok c17_rlrbrerertl_dr ?_
  simp only [sX, simprocAttr, -List.reduceReplicate, ho, hbl]
  refine call_of hca ?_
  rintro v H1 ⟨rfl, hg⟩
  have ho1 := (hg.2 bl hbl).trans ho
  simp only [sX, simprocAttr, -List.reduceReplicate, ho1, hbl, e1, e2]
  refine call_of (hcb _ hg) ?_
  rintro v H2 ⟨rfl, hg2⟩
  simp only [sX, simprocAttr, -List.reduceReplicate, e3, e4]
  refine run_ret rfl ?_
  (simp only [sP]; refine ⟨_, (by rw [resultsA_eq Try.results17]; simp only [sR, List.mapM_cons, List.mapM_nil]; rfl), ?_⟩)
  refine ⟨?_, hg.trans hg2⟩
  simp
theorem tx_alt {A B : Tr} (ia : TX A) (ib : TX B) : TX (.node 3 S4.z [A, B]) := by
  intro lim H S p n hI hsz
  obtain ⟨rfl, bl, wr, p1, p2, rfl, _, ho, ha, hb⟩ := hI.inv2
  have ht := txt_alt A B
  rw [ht] at hsz ⊢
  simp only [List.length_cons, List.length_append, List.length_nil] at hsz
  have hca := ia lim H S p1 _ ha (by omega)
  have hcb := fun H1 (hg : Gr H H1) => ib lim H1 S p2 _ (hb.gr hg) (by omega)
  have hbl := getO_lt ho
  unfold reC at ho
  simp only [List.cons_append, List.nil_append] at ho
  unfold reV at hca hcb ⊢
  have e1 : ∀ x y, binR X.P .add 9 x y (.string ⟨#[40, 40]⟩) (.string (bs A.txt)) = some (.string (bs ([40, 40] ++ A.txt))) := sadd [40, 40] A.txt (by simp; omega)
  have e2 : ∀ x y, binR X.P .add 9 x y (.string (bs ([40, 40] ++ A.txt))) (.string ⟨#[41, 124, 40]⟩) = some (.string (bs ([40, 40] ++ A.txt ++ [41, 124, 40]))) := sadd ([40, 40] ++ A.txt) [41, 124, 40] (by simp; omega)
  have e3 : ∀ x y, binR X.P .add 9 x y (.string (bs ([40, 40] ++ A.txt ++ [41, 124, 40]))) (.string (bs B.txt)) = some (.string (bs ([40, 40] ++ A.txt ++ [41, 124, 40] ++ B.txt))) := sadd ([40, 40] ++ A.txt ++ [41, 124, 40]) B.txt (by simp; omega)
  have e4 : ∀ x y, binR X.P .add 9 x y (.string (bs ([40, 40] ++ A.txt ++ [41, 124, 40] ++ B.txt))) (.string ⟨#[41, 41]⟩) = some (.string (bs ([40, 40] ++ A.txt ++ [41, 124, 40] ++ B.txt ++ [41, 41]))) := sadd ([40, 40] ++ A.txt ++ [41, 124, 40] ++ B.txt) [41, 41] (by simp; omega)
  simp only [List.cons_append, List.nil_append] at e1 e2 e3 e4
  unfold Tr.k Tr.s
  (refine call_intro fun17 name17 body17 ?_; simp only [Try.ntmps17, List.map_cons, List.map_nil, List.length_cons, List.length_nil, Nat.zero_add, Nat.reduceSub, List.replicate_succ, List.replicate_zero, List.cons_append, List.nil_append])
  refine rS c17_l c17_r rfl ?_
  refine run_region rfl ?_
  simp only [sX, simprocAttr, -List.reduceReplicate]
  refine rS c17_rl c17_rr rfl ?_
  refine rS c17_rll c17_rlr rfl ?_
  refine run_region rfl ?_
  simp only [sX, simprocAttr, -List.reduceReplicate]
  refine run_block (b := c17_rlrb) rfl ?_
  refine rS c17_rlrbl c17_rlrbr rfl ?_
  refine run_region rfl ?_
  simp only [sX, simprocAttr, -List.reduceReplicate]
  refine rF c17_rlrbrt c17_rlrbre rfl rfl ?_
  refine rS c17_rlrbrel c17_rlrbrer rfl ?_
  refine run_region rfl ?_
  simp only [sX, simprocAttr, -List.reduceReplicate]
  refine rF c17_rlrbrert c17_rlrbrere rfl rfl ?_
  refine rS c17_rlrbrerel c17_rlrbrerer rfl ?_
  refine run_region rfl ?_
  simp only [sX, simprocAttr, -List.reduceReplicate]
  refine rF c17_rlrbrerert c17_rlrbrerere rfl rfl ?_
  refine rS c17_rlrbrererel c17_rlrbrererer rfl ?_
  refine run_region rfl ?_
  simp only [sX, simprocAttr, -List.reduceReplicate]
  refine rT c17_rlrbrererert c17_rlrbrererere rfl rfl ?_
  refine rS c17_rlrbrererertl c17_rlrbrererertr rfl ?_
  refine run_draw rfl c17_rlrbrererertl_ok c17_rlrbrererertl_dr ?_
  simp only [sX, simprocAttr, -List.reduceReplicate, ho, hbl]
  refine call_of hca ?_
  rintro v H1 ⟨rfl, hg⟩
  have ho1 := (hg.2 bl hbl).trans ho
  simp only [sX, simprocAttr, -List.reduceReplicate, ho1, hbl, e1, e2]
  refine call_of (hcb _ hg) ?_
  rintro v H2 ⟨rfl, hg2⟩
  simp only [sX, simprocAttr, -List.reduceReplicate, e3, e4]
  refine run_ret rfl ?_
  (simp only [sP]; refine ⟨_, (by rw [resultsA_eq Try.results17]; simp only [sR, List.mapM_cons, List.mapM_nil]; rfl), ?_⟩)
  refine ⟨?_, hg.trans hg2⟩
  simp
theorem tx_ok {T : Tr} (h : Ok T) : TX T := by
  induction h with
  | empty => exact tx_empty
  | set s => exact tx_set s
  | cat _ _ ia ib => exact tx_cat ia ib
  | alt _ _ ia ib => exact tx_alt ia ib
  | star _ ia => exact tx_star ia
  | plus _ ia => exact tx_plus ia
  | opt _ ia => exact tx_opt ia
  | first => exact tx_first
  | last => exact tx_last

/-- What is printed. -/
theorem print_ok (lim : Nat) (H : Hp) (S : Nat → Prop) (T : Tr) (p : Option Addr) (n : Nat) (hI : IsRe H S T (reC T.k T.s p n)) (hh : T.ht ≤ 40) (hl : T.lv ≤ 400) (hsz : T.txt.length ≤ 4611686018427387904) :
    CallEx X lim 6 [reV T.k T.s p n] H fun v H1 => v = .string (bs (if T.shp then T.txt else [])) ∧ Gr H H1 := by
  have hc := rightE lim H S T p n hI hh hl
  cases hs : T.shp with
  | true =>
    rw [hs] at hc
    have ht := tx_ok (ok_of_shp 40 T hh hs) lim H S p n hI hsz
    unfold reV at hc ht ⊢
    (refine call_intro fun6 name6 body6 ?_; simp only [Try.ntmps6, List.map_cons, List.map_nil, List.length_cons, List.length_nil, Nat.zero_add, Nat.reduceSub, List.replicate_succ, List.replicate_zero, List.cons_append, List.nil_append])
    refine rS c6_l c6_r rfl ?_
    refine run_region rfl ?_
    simp only [sX, simprocAttr, -List.reduceReplicate]
    refine rS c6_rl c6_rr rfl ?_
    refine rS c6_rll c6_rlr rfl ?_
    refine run_region rfl ?_
    simp only [sX, simprocAttr, -List.reduceReplicate]
    refine call_of hc ?_
    rintro v H2 ⟨rfl, h2⟩
    subst h2
    simp only [sX, simprocAttr, -List.reduceReplicate]
    refine rF c6_rlrt c6_rlre rfl rfl ?_
    refine run_skip rfl ?_
    simp only [sP]
    refine rS c6_rrl c6_rrr rfl ?_
    refine run_region rfl ?_
    simp only [sX, simprocAttr, -List.reduceReplicate]
    refine call_of ht ?_
    rintro v H1 ⟨rfl, hg⟩
    simp only [sX, simprocAttr, -List.reduceReplicate]
    refine run_ret rfl ?_
    (simp only [sP]; refine ⟨_, (by rw [resultsA_eq Try.results6]; simp only [sR, List.mapM_cons, List.mapM_nil]; rfl), ?_⟩)
    exact ⟨rfl, hg⟩
  | false =>
    rw [hs] at hc
    unfold reV at hc ⊢
    (refine call_intro fun6 name6 body6 ?_; simp only [Try.ntmps6, List.map_cons, List.map_nil, List.length_cons, List.length_nil, Nat.zero_add, Nat.reduceSub, List.replicate_succ, List.replicate_zero, List.cons_append, List.nil_append])
    refine rS c6_l c6_r rfl ?_
    refine run_region rfl ?_
    simp only [sX, simprocAttr, -List.reduceReplicate]
    refine rS c6_rl c6_rr rfl ?_
    refine rS c6_rll c6_rlr rfl ?_
    refine run_region rfl ?_
    simp only [sX, simprocAttr, -List.reduceReplicate]
    refine call_of hc ?_
    rintro v H2 ⟨rfl, h2⟩
    subst h2
    simp only [sX, simprocAttr, -List.reduceReplicate]
    refine rT c6_rlrt c6_rlre rfl rfl ?_
    refine rS c6_rlrtl c6_rlrtr rfl ?_
    refine run_region rfl ?_
    simp only [sX, simprocAttr, -List.reduceReplicate]
    refine run_ret rfl ?_
    (simp only [sP]; refine ⟨_, (by rw [resultsA_eq Try.results6]; simp only [sR, List.mapM_cons, List.mapM_nil]; rfl), ?_⟩)
    exact ⟨rfl, Gr.refl _⟩
end Go.Proofs.Ytmgofjgfmcmceaa
end
section
namespace Go.Proofs.Ytmgofjgfmcmceaa
open Go.RowKit
set_option maxRecDepth 4000

theorem S4.ext_has {s t : S4} (h : ∀ x, x < 256 → s.has x = t.has x) : s = t := by
  obtain ⟨a, b, c, d⟩ := s
  obtain ⟨a', b', c', d'⟩ := t
  simp only [S4.mk.injEq]
  refine ⟨?_, ?_, ?_, ?_⟩
  · apply BitVec.eq_of_getLsbD_eq; intro i hi
    have := h i (by omega)
    simp only [S4.has, show i / 64 = 0 by omega, if_true, show i % 64 = i by omega] at this
    exact this
  · apply BitVec.eq_of_getLsbD_eq; intro i hi
    have := h (64 + i) (by omega)
    simp only [S4.has, show (64 + i) / 64 = 1 by omega, if_true, show (64 + i) % 64 = i by omega, show ((1 : Nat) = 0) = False by simp, if_false] at this
    exact this
  · apply BitVec.eq_of_getLsbD_eq; intro i hi
    have := h (128 + i) (by omega)
    simp only [S4.has, show (128 + i) / 64 = 2 by omega, if_true, show (128 + i) % 64 = i by omega, show ((2 : Nat) = 0) = False by simp, show ((2 : Nat) = 1) = False by simp, if_false] at this
    exact this
  · apply BitVec.eq_of_getLsbD_eq; intro i hi
    have := h (192 + i) (by omega)
    simp only [S4.has, show (192 + i) / 64 = 3 by omega, show (192 + i) % 64 = i by omega, show ((3 : Nat) = 0) = False by simp, show ((3 : Nat) = 1) = False by simp, show ((3 : Nat) = 2) = False by simp, if_false] at this
    exact this
theorem has_z (x : Nat) : S4.z.has x = false := by simp [S4.has, S4.z]
theorem has_or (s t : S4) (x : Nat) : (s.or t).has x = (s.has x || t.has x) := by
  unfold S4.has S4.or
  split
  · simp
  · split
    · simp
    · split <;> simp
theorem has_put (s : S4) (x y : Nat) (hx : x < 256) (hy : y < 256) : (s.put x).has y = (s.has y || decide (x = y)) := by
  have hb : ∀ (w : BitVec 64), (w ||| BitVec.twoPow 64 (x % 64)).getLsbD (y % 64) = (w.getLsbD (y % 64) || decide (x % 64 = y % 64)) := by
    intro w
    simp [BitVec.getLsbD_or, BitVec.getLsbD_twoPow, show x % 64 < 64 by omega]
  have hxy : decide (x = y) = (decide (x / 64 = y / 64) && decide (x % 64 = y % 64)) := by
    by_cases h : x = y
    · subst h; simp
    · by_cases h1 : x / 64 = y / 64
      · have h2 : x % 64 ≠ y % 64 := by omega
        simp [h, h1, h2]
      · simp [h, h1]
  rw [hxy]
  unfold S4.has S4.put
  have c1 : x / 64 = 0 ∨ x / 64 = 1 ∨ x / 64 = 2 ∨ x / 64 = 3 := by omega
  have c2 : y / 64 = 0 ∨ y / 64 = 1 ∨ y / 64 = 2 ∨ y / 64 = 3 := by omega
  rcases c1 with c1 | c1 | c1 | c1 <;> rcases c2 with c2 | c2 | c2 | c2 <;> simp [c1, c2, hb]
theorem has_putAll (l : List Nat) : ∀ (s : S4) (y : Nat), (∀ x ∈ l, x < 256) → y < 256 → (putAll s l).has y = (s.has y || l.contains y) := by
  induction l with
  | nil => intro s y _ _; simp [putAll]
  | cons x l ih =>
    intro s y hx hy
    have := ih (s.or (S4.z.put x)) y (fun z hz => hx z (by simp [hz])) hy
    simp only [putAll, List.foldl_cons] at this ⊢
    rw [this, has_or, has_put _ _ _ (hx x (by simp)) hy, has_z]
    simp only [List.contains_cons, Bool.false_or, Bool.or_assoc]
    congr 1
    by_cases h : x = y
    · subst h; simp
    · simp [h, Ne.symm h]
theorem putAll_bytes (s : S4) : putAll S4.z s.bytes = s := by
  apply S4.ext_has
  intro x hx
  rw [has_putAll _ _ _ (fun y hy => by have := (List.mem_filter.mp hy).1; simpa using this) hx, has_z, Bool.false_or]
  cases h : s.has x with
  | true => simp [S4.bytes, h, hx]
  | false => simp [S4.bytes, h]
theorem bytes_nil (s : S4) (h : s.bytes = []) : s = S4.z := by
  have := putAll_bytes s
  rw [h] at this
  exact this.symm

theorem pa_ok {T : Tr} (h : Ok T) : T.dp ≤ 39 → T.lv ≤ 300 → PA T := by
  induction h with
  | empty => exact fun _ _ => pa_empty
  | set s => exact fun _ _ => pa_set s (bytes_nil s) (putAll_bytes s)
  | @cat a b _ _ ia ib =>
    intro h1 h2
    simp only [Tr.dp, dpL, Tr.lv, lvL] at h1 h2
    have := a.lv_pos; have := b.lv_pos
    exact pa_cat (ia (by omega) (by omega)) (ib (by omega) (by omega)) (by omega) (by omega) (by omega)
  | @alt a b _ _ ia ib =>
    intro h1 h2
    simp only [Tr.dp, dpL, Tr.lv, lvL] at h1 h2
    have := a.lv_pos; have := b.lv_pos
    exact pa_alt (ia (by omega) (by omega)) (ib (by omega) (by omega)) (by omega) (by omega) (by omega)
  | @star a _ ia =>
    intro h1 h2
    simp only [Tr.dp, dpL, Tr.lv, lvL] at h1 h2
    exact pa_sign (ia (by omega) (by omega)) (by decide) (txt_star a) fun lim H rb s a0 a1 op w hlim hr h1' hw hq hsz => piece_1 lim H rb s a0 a1 op a w hlim hr h1' hw hq hsz (by omega) (by omega)
  | @plus a _ ia =>
    intro h1 h2
    simp only [Tr.dp, dpL, Tr.lv, lvL] at h1 h2
    exact pa_sign (ia (by omega) (by omega)) (by decide) (txt_plus a) fun lim H rb s a0 a1 op w hlim hr h1' hw hq hsz => piece_2 lim H rb s a0 a1 op a w hlim hr h1' hw hq hsz (by omega) (by omega)
  | @opt a _ ia =>
    intro h1 h2
    simp only [Tr.dp, dpL, Tr.lv, lvL] at h1 h2
    exact pa_sign (ia (by omega) (by omega)) (by decide) (txt_opt a) fun lim H rb s a0 a1 op w hlim hr h1' hw hq hsz => piece_3 lim H rb s a0 a1 op a w hlim hr h1' hw hq hsz (by omega) (by omega)
  | first => exact fun _ _ => pa_first
  | last => exact fun _ _ => pa_last
end Go.Proofs.Ytmgofjgfmcmceaa
end
section
namespace Go.Proofs.Ytmgofjgfmcmceaa
open Go.RowKit
set_option maxRecDepth 4000
set_option maxHeartbeats 2000000

theorem toList_loop (s : ByteArray) : ∀ (n i : Nat) (r : List UInt8), s.size - i = n → (ByteArray.toList.loop s i r).length = r.length + n
  | 0, i, r, h => by
    unfold ByteArray.toList.loop
    rw [if_neg (by omega)]; simp
  | n + 1, i, r, h => by
    unfold ByteArray.toList.loop
    rw [if_pos (by omega), toList_loop s n (i + 1) _ (by omega)]
    simp; omega
theorem toList_length (s : ByteArray) : s.toList.length = s.size := by
  have := toList_loop s s.size 0 [] (by omega)
  simpa [ByteArray.toList] using this
theorem toList_ne {l : List UInt8} (h : l ≠ []) : ((bs l).toList == (⟨#[]⟩ : ByteArray).toList) = false := by
  apply Bool.eq_false_iff.mpr
  intro h'
  have h1 := eq_of_beq h'
  have h2 := congrArg List.length h1
  rw [toList_length, toList_length, bs_size] at h2
  have : (⟨#[]⟩ : ByteArray).size = 0 := rfl
  rw [this] at h2
  exact h (List.length_eq_zero_iff.mp h2)
theorem txt_ne {T : Tr} (h : Ok T) : T.txt ≠ [] := by
  cases h with
  | empty => simp [Tr.txt]
  | set s =>
    have : (Tr.node 1 s []).txt = setT s := by simp [Tr.txt]
    rw [this]; unfold setT
    split
    · simp
    · split <;> simp
  | cat _ _ => rw [txt_cat]; simp
  | alt _ _ => rw [txt_alt]; simp
  | star _ => rw [txt_star]; simp
  | plus _ => rw [txt_plus]; simp
  | opt _ => rw [txt_opt]; simp
  | first => simp [Tr.txt]
  | last => simp [Tr.txt]

theorem parse_ok (lim : Nat) (H : Hp) {T : Tr} (h : Ok T) (hd : T.dp ≤ 39) (hl : T.lv ≤ 300) (hh : T.ht ≤ 40) (hn : T.nest ≤ 10) (hlim : lim ≤ H.length) (hsz : T.txt.length ≤ 4611686018427387904) :
    CallEx X lim 9 [.string (bs T.txt)] H fun v H1 => ∃ p n, v = .tuple #[reV T.k T.s p n, .int .i64 0, .int .i64 0] ∧ IsRe H1 (fun b => H.length ≤ b) T (reC T.k T.s p n) ∧ Gr H H1 := by
  have e0 := toList_ne (txt_ne h)
  have hr0 : isRd (H ++ [some ⟨true, 0, [.string (bs T.txt), .int .i64 0, .int .i64 0, .int .i64 0, .int .i64 0]⟩]) H.length (bs T.txt) 0 0 := getO_append_new
  have hw : tl (bs T.txt) 0 = T.txt ++ [] := by simp [tl, bs]
  have hw2 : tl (bs T.txt) (0 + T.txt.length) = [] := tl_app hw
  have hp := fun lim' (hlim' : lim' ≤ H.length) => pa_ok h hd hl lim' (H ++ [some ⟨true, 0, [.string (bs T.txt), .int .i64 0, .int .i64 0, .int .i64 0, .int .i64 0]⟩]) H.length (bs T.txt) 0 0 [] hlim' hr0 hw (.inl rfl) (by omega) (by omega) (by omega)
  have hsh := shp_of_ok h
  (refine call_intro fun9 name9 body9 ?_; simp only [Try.ntmps9, List.map_cons, List.map_nil, List.length_cons, List.length_nil, Nat.zero_add, Nat.reduceSub, List.replicate_succ, List.replicate_zero, List.cons_append, List.nil_append])
  refine rS c9_l c9_r rfl ?_
  refine run_region rfl ?_
  simp only [sX, simprocAttr, -List.reduceReplicate, pur9]
  refine rS c9_rl c9_rr rfl ?_
  refine rS c9_rll c9_rlr rfl ?_
  refine run_region rfl ?_
  simp only [sX, simprocAttr, -List.reduceReplicate, e0]
  refine rF c9_rlrt c9_rlre rfl rfl ?_
  refine run_skip rfl ?_
  simp only [sP]
  refine rS c9_rrl c9_rrr rfl ?_
  refine run_region rfl ?_
  simp only [sX, simprocAttr, -List.reduceReplicate]
  refine rS c9_rrrl c9_rrrr rfl ?_
  refine run_region rfl ?_
  simp only [sX, simprocAttr, -List.reduceReplicate]
  refine call_of (hp _ (by omega)) ?_
  rintro v H1 ⟨hl1, hk1, hr1, p1, n1, rfl, ht1⟩
  rw [len_snoc] at hl1 hk1 ht1
  have hr1' := hr1
  unfold isRd rdC at hr1'
  unfold pcC
  simp only [sX, simprocAttr, -List.reduceReplicate]
  refine rS c9_rrrrl c9_rrrrr rfl ?_
  refine rS c9_rrrrll c9_rrrrlr rfl ?_
  refine run_regionG rfl c9_rrrrll_gs ?_
  simp only [sX, simprocAttr, -List.reduceReplicate, hr1']
  refine call_of (more_tl _ hr1 hw2) ?_
  rintro v H2 ⟨rfl, h2⟩
  subst h2
  simp only [List.isEmpty_nil]
  simp only [sX, simprocAttr, -List.reduceReplicate]
  refine rF c9_rrrrlrt c9_rrrrlre rfl rfl ?_
  refine run_skip rfl ?_
  simp only [sP]
  refine rS c9_rrrrrl c9_rrrrrr rfl ?_
  refine rS c9_rrrrrll c9_rrrrrlr rfl ?_
  refine run_regionG rfl c9_rrrrrll_gs ?_
  simp only [sX, simprocAttr, -List.reduceReplicate, hr1']
  refine call_of (rightE _ _ _ T p1 n1 ht1 hh (by omega)) ?_
  rintro v H2 ⟨rfl, h2⟩
  subst h2
  rw [hsh]
  simp only [sX, simprocAttr, -List.reduceReplicate]
  refine rF c9_rrrrrlrt c9_rrrrrlre rfl rfl ?_
  refine run_skip rfl ?_
  simp only [sP]
  refine rS c9_rrrrrrl c9_rrrrrrr rfl ?_
  refine rS c9_rrrrrrll c9_rrrrrrlr rfl ?_
  refine run_region rfl ?_
  simp only [sX, simprocAttr, -List.reduceReplicate, hr1']
  refine rF c9_rrrrrrlrt c9_rrrrrrlre rfl rfl ?_
  refine run_skip rfl ?_
  simp only [sP]
  refine rS c9_rrrrrrrl c9_rrrrrrrr rfl ?_
  refine run_region rfl ?_
  simp only [sX, simprocAttr, -List.reduceReplicate]
  refine run_ret rfl ?_
  (simp only [sP]; refine ⟨_, (by rw [resultsA_eq Try.results9]; simp only [sR, List.mapM_cons, List.mapM_nil, if_true, Nat.reduceAdd]; rfl), ?_⟩)
  exact ⟨p1, n1, rfl, ht1.mono2 (fun b hb => Nat.le_of_succ_le hb) (fun _ _ _ => rfl), by omega, fun b hb => by rw [hk1 b (by omega) (by omega), getO_snoc hb]⟩
end Go.Proofs.Ytmgofjgfmcmceaa
end
section
namespace Go.Proofs.Ytmgofjgfmcmceaa
open Go.RowKit
set_option maxRecDepth 4000
section
variable {X : Ctx} {f : FuncId} {lim n0 : Nat} {Q : List TV → Hp → Prop} {k : List It} {t : List TV} {H : Hp} {l : List GI} {dst : Option Tmp} {ty : TypeId} {pos : String} {af : Array Edge} {gu : Option (Nat × Bool)} {g : Option (Option Tmp × Bool)} {dr : Option (List Nat × Bool × Bool)}
def mkS (X : Ctx) (H : Hp) (ee : Option TypeId) : Option Value → Option Value → Option (Value × Hp)
  | some (.int .i64 l), some (.int .i64 c) => match ee with
    | some e => match sizeP X.P e, zeroP X.P e with
      | some es, some z => if 0 ≤ l ∧ l = c ∧ roomOk X.P e l.toNat = true ∧ z.cells.toList.all noRef = true then newSlice H es l.toNat (zeros z.cells.toList (l.toNat * es)) else none
      | _, _ => none
    | none => none
  | _, _ => none
theorem exe_makeSlice {x y : Operand} {ty1 : TypeId} : EXE X f lim n0 Q k ⟨⟨dst, .makeSlice ty1 x y, ty, pos, af, gu⟩, g, dr⟩ l t H = FR X f lim n0 Q k ⟨⟨dst, .makeSlice ty1 x y, ty, pos, af, gu⟩, g, dr⟩ l t ((mkS X H (elemP X.P ty1) (evv X t x) (evv X t y)).bind fun q => some (.val q.1, t, q.2)) := by
  refine EXE_r fun call => ?_
  simp only [stepOp]
  generalize evv X t x = vx
  generalize evv X t y = vy
  generalize elemP X.P ty1 = ee
  cases vx with
  | none => cases vy <;> cases ee <;> rfl
  | some vx =>
    cases vx with
    | int k1 n1 =>
      cases vy with
      | none => cases k1 <;> cases ee <;> rfl
      | some vy =>
        cases vy with
        | int k2 n2 =>
          cases k1 <;> cases k2 <;> first | (cases ee <;> rfl) | skip
          cases ee with
          | none => rfl
          | some e =>
            simp only [mkS]
            generalize sizeP X.P e = sz
            generalize zeroP X.P e = zz
            cases sz with
            | none => rfl
            | some es => cases zz with
              | none => rfl
              | some z =>
                simp only
                split
                · cases newSlice H es n1.toNat (zeros z.cells.toList (n1.toNat * es)) with
                  | none => rfl
                  | some q => rfl
                · rfl
        | _ => cases k1 <;> cases ee <;> rfl
    | _ => cases vy <;> cases ee <;> rfl
def cpR (X : Ctx) (lim : Nat) (H : Hp) (ty : TypeId) : Option Value → Option Value → Option (Value × Hp)
  | some d, some s => copyV X.P lim H ty d s
  | _, _ => none
theorem exe_copy {x y : Operand} {ty1 ty2 : TypeId} : EXE X f lim n0 Q k ⟨⟨dst, .call ⟨.builtin .copy, #[x, y], #[ty1, ty2]⟩, ty, pos, af, gu⟩, g, dr⟩ l t H = FR X f lim n0 Q k ⟨⟨dst, .call ⟨.builtin .copy, #[x, y], #[ty1, ty2]⟩, ty, pos, af, gu⟩, g, dr⟩ l t ((cpR X lim H ty1 (evv X t x) (evv X t y)).bind fun q => some (.val q.1, t, q.2)) := by
  refine EXE_r fun call => ?_
  simp only [stepOp, List.getElem?_toArray, List.getElem?_cons_zero, List.getElem?_cons_succ]
  cases evv X t x with
  | none => rfl
  | some s => cases evv X t y with
    | none => rfl
    | some u => simp only [cpR]; cases copyV X.P lim H ty1 s u <;> rfl
end
theorem bin_beql {x y : Operand} {a b : Bool} : binR X.P .eql 4 x y (.bool a) (.bool b) = some (.bool (a == b)) := by
  cases a <;> cases b <;> (refine Eq.trans ?_ (Eq.refl _); kernel_rfl)

/-- A row of truth values. -/
def boolC (l : List Bool) : List Value := l.map Value.bool
theorem boolC_len (l : List Bool) : (boolC l).length = l.length := by simp [boolC]
theorem boolC_all (l : List Bool) : (boolC l).all isCell = true := by simp [boolC, isCell]
theorem zeros_bool (n : Nat) : zeros [.bool false] (n * 1) = boolC (List.replicate n false) := by
  unfold zeros boolC
  apply List.ext_getElem
  · simp
  · intro i h1 h2
    simp [Nat.mod_one]
theorem mkS_62 (H : Hp) (n : Nat) (hn : n ≤ 1000000) : mkS X H (some 4) (some (.int .i64 (n : Int))) (some (.int .i64 (n : Int))) = some (.slice (some ⟨H.length, 0, none⟩) n n, H ++ [some ⟨true, 1, boolC (List.replicate n false)⟩]) := by
  have hr : roomOk X.P 4 n = true := roomOk_of by4 zr4 sz4 rfl (by omega) (by omega)
  have hz : (Value.cells (.bool false)).toList = [.bool false] := rfl
  have ha : ([Value.bool false]).all noRef = true := rfl
  simp only [mkS, sz4, zr4, Int.toNat_natCast, hr, hz, ha, zeros_bool]
  rw [if_pos ⟨by omega, trivial, trivial, trivial⟩]
  unfold newSlice
  rw [if_pos (boolC_all _)]
/-- These truth values lie there. -/
def isPl (H : Hp) (b : Nat) (l : List Bool) : Prop := ∃ wr, getO H b = some ⟨wr, 1, boolC l⟩
theorem isPl.gr {H H1 : Hp} {b : Nat} {l : List Bool} (h : isPl H b l) (hg : Gr H H1) : isPl H1 b l := by
  obtain ⟨wr, h⟩ := h
  exact ⟨wr, (hg.2 b (getO_lt h)).trans h⟩
theorem boolC_get (l : List Bool) (i : Nat) (h : i < l.length) : (boolC l)[i]? = some (.bool l[i]) := by simp [boolC, h]
theorem boolC_set (l : List Bool) (i : Nat) (v : Bool) : (boolC l).set i (.bool v) = boolC (l.set i v) := by simp [boolC, List.map_set]
end Go.Proofs.Ytmgofjgfmcmceaa
end
section
namespace Go.Proofs.Ytmgofjgfmcmceaa
open Go.RowKit
set_option maxRecDepth 4000
set_option maxHeartbeats 2000000

def orL (A B : List Bool) : List Bool := List.zipWith (· || ·) A B
theorem orL_len {A B : List Bool} (h : B.length = A.length) : (orL A B).length = A.length := by simp [orL, h]

theorem either_loop (lim : Nat) (R : Value → Hp → Prop) (A B : List Bool) (ab bb ob n : Nat) (hA : A.length = n) (hB : B.length = n) (hlim : lim ≤ ob) (hab : ab ≠ ob) (hbb : bb ≠ ob) (hn : n ≤ 1000000) : ∀ (k i : Nat) (C : List Bool) (H : Hp) (t : List TV), i + k = n → C.length = n → (∀ j, j < i → C[j]? = (orL A B)[j]?) →
    getO H ob = some ⟨true, 1, boolC C⟩ → isPl H ab A → isPl H bb B →
    clrF [0, 1, 5, 6] 0 t = (.val (.slice (some ⟨ab, 0, none⟩) n n) :: .val (.slice (some ⟨bb, 0, none⟩) n n) :: .undef :: .undef :: .undef :: .val (.slice (some ⟨ob, 0, none⟩) n n) :: .val (.int .i64 (i : Int)) :: .undef :: .undef :: .undef :: .undef :: .undef :: .undef :: .undef :: .undef :: .undef :: .undef :: .undef :: .undef :: .undef :: .undef :: .undef :: .undef :: .undef :: .undef :: .undef :: .undef :: .undef :: .undef :: .undef :: []) →
    (∀ H1, H1.length = H.length → (∀ b, b ≠ ob → getO H1 b = getO H b) → getO H1 ob = some ⟨true, 1, boolC (orL A B)⟩ → R (.slice (some ⟨ob, 0, none⟩) n n) H1) →
    RUN X 33 lim (fun t1 H1 => ∃ v, resultsA X.P Try.f33 t1 = some v ∧ R v H1) [.blk 0, .code c33_rrr] (.loop c33_rrlrbo) t H
  | 0, i, C, H, t, hi, hC, hj, ho, ha, hb, ht, hR => by
    have hi' : i = n := by omega
    have e1 : decide ((i : Int) < (n : Int)) = false := by simp; omega
    have hCe : C = orL A B := by
      apply List.ext_getElem?
      intro j
      by_cases h : j < i
      · exact hj j h
      · rw [List.getElem?_eq_none (by omega), List.getElem?_eq_none (by rw [orL_len (by omega)]; omega)]
    (refine run_loopk (b := c33_rrlrbo) rfl keep33_3 ?_; rw [ht])
    refine rS c33_rrlrbol c33_rrlrbor rfl ?_
    refine rS c33_rrlrboll c33_rrlrbolr rfl ?_
    refine run_region rfl ?_
    simp only [sX, simprocAttr, -List.reduceReplicate, e1]
    refine rF c33_rrlrbolrt c33_rrlrbolre rfl rfl ?_
    refine run_exit rfl ?_
    simp only [sP, if_true]
    refine rS c33_rrrl c33_rrrr rfl ?_
    refine run_region rfl ?_
    simp only [sX, simprocAttr, -List.reduceReplicate]
    refine run_ret rfl ?_
    (simp only [sP]; refine ⟨_, (by rw [resultsA_eq Try.results33]; simp only [sR, List.mapM_cons, List.mapM_nil]; rfl), ?_⟩)
    exact hR _ rfl (fun _ _ => rfl) (by rw [ho, hCe])
  | k + 1, i, C, H, t, hi, hC, hj, ho, ha, hb, ht, hR => by
    have hi' : i < n := by omega
    have e1 : decide ((i : Int) < (n : Int)) = true := by simp; omega
    have e2 : decide (0 ≤ (i : Int) ∧ (i : Int) < (n : Int)) = true := by simp; omega
    have w1 : IntKind.i64.wrap ((i : Int) + 1) = ((i + 1 : Nat) : Int) := by rw [IntWalk.i64_in _ (by omega)]; omega
    obtain ⟨wa, ha'⟩ := ha
    obtain ⟨wb, hb'⟩ := hb
    have gA := boolC_get A i (by omega)
    have gB := boolC_get B i (by omega)
    have hlC : i + 1 ≤ (boolC C).length := by rw [boolC_len]; omega
    have hs := fun v => boolC_set C i v
    have holt := getO_lt ho
    have hor : ∀ v, v = (A[i]'(by omega) || B[i]'(by omega)) → ∀ j, j < i + 1 → (C.set i v)[j]? = (orL A B)[j]? := by
      intro v hv j hj'
      by_cases h : j = i
      · subst h
        rw [List.getElem?_set_self (by omega), hv]
        simp [orL, List.getElem?_zipWith, List.getElem?_eq_getElem (show j < A.length by omega), List.getElem?_eq_getElem (show j < B.length by omega)]
      · rw [List.getElem?_set_ne (Ne.symm h)]
        exact hj j (by omega)
    cases hAi : A[i]'(by omega) with
    | true =>
      rw [hAi] at gA
      (refine run_loopk (b := c33_rrlrbo) rfl keep33_3 ?_; rw [ht])
      refine rS c33_rrlrbol c33_rrlrbor rfl ?_
      refine rS c33_rrlrboll c33_rrlrbolr rfl ?_
      refine run_region rfl ?_
      simp only [sX, simprocAttr, -List.reduceReplicate, e1]
      refine rT c33_rrlrbolrt c33_rrlrbolre rfl rfl ?_
      refine run_skip rfl ?_
      simp only [sP]
      refine rS c33_rrlrborl c33_rrlrborr rfl ?_
      refine run_block (b := c33_rrlrborlb) rfl ?_
      refine run_regionG rfl c33_rrlrborlb_gs ?_
      simp only [sX, simprocAttr, -List.reduceReplicate, e2, ha', ho, gA, hlC, hs, hlim]
      refine run_region rfl ?_
      simp only [sX, simprocAttr, -List.reduceReplicate, w1]
      refine either_loop lim R A B ab bb ob n hA hB hlim hab hbb hn k (i + 1) (C.set i true) _ _ (by omega) (by simpa using hC) (hor true (by rw [hAi]; rfl)) (getO_set_self holt) ⟨wa, by rw [getO_set_ne hab]; exact ha'⟩ ⟨wb, by rw [getO_set_ne hbb]; exact hb'⟩ (by simp only [sC, Nat.reduceBEq, Nat.reduceAdd]) ?_
      intro H1 h1 h2 h3
      exact hR H1 (by rw [h1, List.length_set]) (fun b hb => by rw [h2 b hb, getO_set_ne hb]) h3
    | false =>
      rw [hAi] at gA
      (refine run_loopk (b := c33_rrlrbo) rfl keep33_3 ?_; rw [ht])
      refine rS c33_rrlrbol c33_rrlrbor rfl ?_
      refine rS c33_rrlrboll c33_rrlrbolr rfl ?_
      refine run_region rfl ?_
      simp only [sX, simprocAttr, -List.reduceReplicate, e1]
      refine rT c33_rrlrbolrt c33_rrlrbolre rfl rfl ?_
      refine run_skip rfl ?_
      simp only [sP]
      refine rS c33_rrlrborl c33_rrlrborr rfl ?_
      refine run_block (b := c33_rrlrborlb) rfl ?_
      refine run_regionG rfl c33_rrlrborlb_gs ?_
      simp only [sX, simprocAttr, -List.reduceReplicate, e2, ha', hb', ho, gA, gB, hlC, hs, hlim]
      refine run_region rfl ?_
      simp only [sX, simprocAttr, -List.reduceReplicate, w1]
      refine either_loop lim R A B ab bb ob n hA hB hlim hab hbb hn k (i + 1) (C.set i (B[i]'(by omega))) _ _ (by omega) (by simpa using hC) (hor _ (by rw [hAi]; rfl)) (getO_set_self holt) ⟨wa, by rw [getO_set_ne hab]; exact ha'⟩ ⟨wb, by rw [getO_set_ne hbb]; exact hb'⟩ (by simp only [sC, Nat.reduceBEq, Nat.reduceAdd]) ?_
      intro H1 h1 h2 h3
      exact hR H1 (by rw [h1, List.length_set]) (fun b hb => by rw [h2 b hb, getO_set_ne hb]) h3

/-- A new row of truth values. -/
def NewPl (H : Hp) (n : Nat) (l : List Bool) (v : Value) (H1 : Hp) : Prop := ∃ b, v = .slice (some ⟨b, 0, none⟩) n n ∧ isPl H1 b l ∧ Gr H H1
theorem either_ok (lim : Nat) (H : Hp) (A B : List Bool) (ab bb n : Nat) (hA : A.length = n) (hB : B.length = n) (ha : isPl H ab A) (hb : isPl H bb B) (hn : n ≤ 1000000) :
    CallEx X lim 33 [.slice (some ⟨ab, 0, none⟩) n n, .slice (some ⟨bb, 0, none⟩) n n] H (NewPl H n (orL A B)) := by
  obtain ⟨wa, ha'⟩ := ha
  obtain ⟨wb, hb'⟩ := hb
  have la := getO_lt ha'
  have lb := getO_lt hb'
  have hmk := mkS_62 H n hn
  (refine call_intro fun33 name33 body33 ?_; simp only [Try.ntmps33, List.map_cons, List.map_nil, List.length_cons, List.length_nil, Nat.zero_add, Nat.reduceAdd, Nat.reduceSub, List.replicate_succ, List.replicate_zero, List.cons_append, List.nil_append])
  refine rS c33_l c33_r rfl ?_
  refine run_region rfl ?_
  simp only [sX, simprocAttr, -List.reduceReplicate, pur33]
  refine rS c33_rl c33_rr rfl ?_
  refine run_region rfl ?_
  simp only [sX, simprocAttr, -List.reduceReplicate, exe_makeSlice, hmk]
  refine rS c33_rrl c33_rrr rfl ?_
  refine rS c33_rrll c33_rrlr rfl ?_
  refine run_region rfl ?_
  simp only [sX, simprocAttr, -List.reduceReplicate]
  refine run_block (b := c33_rrlrb) rfl ?_
  refine either_loop _ _ A B ab bb H.length n hA hB (Nat.le_refl _) (by omega) (by omega) hn n 0 (List.replicate n false) _ _ (by omega) (by simp) (fun j h => absurd h (by omega)) getO_append_new ⟨wa, by rw [getO_snoc la]; exact ha'⟩ ⟨wb, by rw [getO_snoc lb]; exact hb'⟩ (by simp only [sC, Nat.reduceBEq, Nat.reduceAdd]; rfl) ?_
  intro H1 h1 h2 h3
  rw [len_snoc] at h1
  exact ⟨_, rfl, ⟨true, h3⟩, by omega, fun b hb => by rw [h2 b (by omega), getO_snoc hb]⟩
end Go.Proofs.Ytmgofjgfmcmceaa
end
section
namespace Go.Proofs.Ytmgofjgfmcmceaa
open Go.RowKit
set_option maxRecDepth 4000
set_option maxHeartbeats 2000000
def plb (w : Int) (m : Int) : Bool := decide ((w.fdiv (2 ^ (min m.toNat IntKind.u64.bits))).tmod 2 = 1)
def wordI (a b c d : Int) (i : Nat) : Int := if i < 64 then a else if i < 128 then b else if i < 192 then c else d
theorem plain_eq (lim : Nat) (H : Hp) (a b c d : Int) : execCall X 400 lim 32 [.agg #[.int .u64 a, .int .u64 b, .int .u64 c, .int .u64 d]] H = some (.agg ((List.range 256).map fun i => .bool (plb (wordI a b c d i) ((i % 64 : Nat) : Int))).toArray, H) := by kernel_rfl
end Go.Proofs.Ytmgofjgfmcmceaa
end
section
namespace Go.Proofs.Ytmgofjgfmcmceaa
open Go.RowKit
set_option maxRecDepth 4000
set_option maxHeartbeats 2000000

theorem plb_bit (w : BitVec 64) (m : Nat) (hm : m < 64) : plb (w.toNat : Int) (m : Int) = w.getLsbD m := by
  unfold plb
  have h1 : min (m : Int).toNat IntKind.u64.bits = m := by
    have : IntKind.u64.bits = 64 := rfl
    rw [this]; omega
  rw [h1, Int.fdiv_eq_ediv_of_nonneg _ (Int.le_of_lt (Int.pow_pos (by decide)))]
  have h2 : ((w.toNat : Int) / 2 ^ m) = ((w.toNat / 2 ^ m : Nat) : Int) := by norm_cast
  rw [h2, Int.tmod_eq_emod_of_nonneg (Int.natCast_nonneg _)]
  rw [BitVec.getLsbD, Nat.testBit_eq_decide_div_mod_eq]
  apply decide_eq_decide.mpr
  omega
/-- A set's table. -/
def tbl (s : S4) : List Value := (List.range 256).map fun i => .bool (s.has i)
theorem tbl_len (s : S4) : (tbl s).length = 256 := by simp [tbl]
theorem tbl_get (s : S4) (i : Nat) (h : i < 256) : (tbl s)[i]? = some (.bool (s.has i)) := by simp [tbl, h]
theorem tbl_all (s : S4) : (tbl s).all isCell = true := by simp [tbl, isCell]
theorem plain_ok (lim : Nat) (H : Hp) (s : S4) : CallEx X lim 32 [setV s] H fun v H1 => v = .agg (tbl s).toArray ∧ H1 = H := by
  refine call_eq (plain_eq lim H _ _ _ _) ⟨?_, rfl⟩
  congr 2
  apply List.map_congr_left
  intro i hi
  have hi' : i < 256 := by simpa using hi
  congr 1
  unfold wordI S4.has
  by_cases h0 : i < 64
  · rw [if_pos h0, if_pos (show i / 64 = 0 by omega), plb_bit _ _ (by omega)]
  · rw [if_neg h0, if_neg (show ¬ i / 64 = 0 by omega)]
    by_cases h1 : i < 128
    · rw [if_pos h1, if_pos (show i / 64 = 1 by omega), plb_bit _ _ (by omega)]
    · rw [if_neg h1, if_neg (show ¬ i / 64 = 1 by omega)]
      by_cases h2 : i < 192
      · rw [if_pos h2, if_pos (show i / 64 = 2 by omega), plb_bit _ _ (by omega)]
      · rw [if_neg h2, if_neg (show ¬ i / 64 = 2 by omega), plb_bit _ _ (by omega)]
theorem setCells_all : ∀ (vs cs : List Value) (i : Nat), i + vs.length = cs.length → setCells cs i vs = cs.take i ++ vs
  | [], cs, i, h => by
    simp only [List.length_nil, Nat.add_zero] at h
    rw [setCells, h, List.take_length]; simp
  | v :: vs, cs, i, h => by
    simp only [List.length_cons] at h
    rw [setCells, setCells_all vs (cs.set i v) (i + 1) (by simp; omega)]
    rw [List.take_add_one, List.getElem?_set_self (by omega), List.take_set_of_le (Nat.le_refl i)]
    simp
theorem st_tbl (cs : List Value) (s : S4) (h : cs.length = 256) : stv X.P 48 cs 0 (.agg (tbl s).toArray) = some (tbl s) := by
  unfold stv
  rw [sz48]
  simp only
  have h1 : (Value.cells (.agg (tbl s).toArray)) = (tbl s).toArray := rfl
  rw [h1, if_pos ⟨by simp [tbl_len], by simpa using tbl_all s, by omega⟩]
  rw [setCells_all _ _ _ (by simp [tbl_len, h])]
  simp

/-- What a step over a set leads to. -/
def shL (s : S4) (x : List UInt8) (l : List Bool) : List Bool := false :: List.zipWith (fun f (c : UInt8) => f && s.has c.toNat) l x
theorem shL_len {s : S4} {x : List UInt8} {l : List Bool} (h : l.length = x.length + 1) : (shL s x l).length = l.length := by simp [shL, h]
theorem strIx_bs (x : List UInt8) (i : Nat) (h : i < x.length) : strIx (bs x) (i : Int) = some (.int .u8 ((x[i].toNat : Nat) : Int)) := by
  have : tl (bs x) i = x[i] :: x.drop (i + 1) := by
    simp only [tl, bs]
    rw [List.drop_eq_getElem_cons h]
  exact strIx_cons this

theorem set_step (lim : Nat) (R : Value → Hp → Prop) (s : S4) (x : List UInt8) (A : List Bool) (fb ob n : Nat) (hA : A.length = n) (hx : n = x.length + 1) (hlim : lim ≤ ob) (hfb : fb ≠ ob) (hn : n ≤ 1000000) : ∀ (k i : Nat) (C : List Bool) (H : Hp) (t : List TV), i + k = x.length → C.length = n → (∀ j, j ≤ i → C[j]? = (shL s x A)[j]?) →
    getO H ob = some ⟨true, 1, boolC C⟩ → isPl H fb A →
    clrF [1, 2, 7, 8, 9] 0 t = (.undef :: .val (.string (bs x)) :: .val (.slice (some ⟨fb, 0, none⟩) n n) :: .undef :: .undef :: .undef :: .undef :: .val (.slice (some ⟨ob, 0, none⟩) n n) :: .box (tbl s) :: .val (.int .i64 (i : Int)) :: .undef :: .undef :: .undef :: .undef :: .undef :: .undef :: .undef :: .undef :: .undef :: .undef :: .undef :: .undef :: .undef :: .undef :: .undef :: .undef :: .undef :: .undef :: .undef :: .undef :: .undef :: .undef :: .undef :: .undef :: .undef :: .undef :: .undef :: .undef :: .undef :: .undef :: .undef :: .undef :: .undef :: .undef :: .undef :: .undef :: .undef :: .undef :: .undef :: .undef :: .undef :: .undef :: .undef :: .undef :: .undef :: .undef :: .undef :: .undef :: .undef :: .undef :: .undef :: .undef :: .undef :: .undef :: .undef :: .undef :: .undef :: .undef :: .undef :: .undef :: .undef :: .undef :: .undef :: .undef :: .undef :: .undef :: .undef :: .undef :: .undef :: .undef :: .undef :: .undef :: .undef :: .undef :: .undef :: .undef :: .undef :: .undef :: .undef :: .undef :: .undef :: .undef :: .undef :: .undef :: .undef :: .undef :: .undef :: .undef :: .undef :: .undef :: .undef :: .undef :: .undef :: .undef :: .undef :: .undef :: .undef :: .undef :: .undef :: .undef :: .undef :: .undef :: .undef :: .undef :: .undef :: .undef :: .undef :: .undef :: .undef :: .undef :: .undef :: .undef :: .undef :: .undef :: .undef :: .undef :: .undef :: .undef :: .undef :: .undef :: .undef :: .undef :: []) →
    (∀ H1, H1.length = H.length → (∀ b, b ≠ ob → getO H1 b = getO H b) → getO H1 ob = some ⟨true, 1, boolC (shL s x A)⟩ → R (.slice (some ⟨ob, 0, none⟩) n n) H1) →
    RUN X 25 lim (fun t1 H1 => ∃ v, resultsA X.P Try.f25 t1 = some v ∧ R v H1) [.blk 1, .blk 0, .code c25_rrr] (.loop c25_rrlrbrertrrbo) t H
  | 0, i, C, H, t, hi, hC, hj, ho, ha, ht, hR => by
    have hz : (bs x).size = x.length := bs_size x
    have e1 : decide ((i : Int) < (x.length : Int)) = false := by simp; omega
    have hCe : C = shL s x A := by
      apply List.ext_getElem?
      intro j
      by_cases h : j ≤ i
      · exact hj j h
      · rw [List.getElem?_eq_none (by omega), List.getElem?_eq_none (by rw [shL_len (by omega)]; omega)]
    (refine run_loopk (b := c25_rrlrbrertrrbo) rfl keep25_8 ?_; rw [ht])
    refine rS c25_rrlrbrertrrbol c25_rrlrbrertrrbor rfl ?_
    refine rS c25_rrlrbrertrrboll c25_rrlrbrertrrbolr rfl ?_
    refine run_region rfl ?_
    simp only [sX, simprocAttr, -List.reduceReplicate, e1, hz]
    refine rF c25_rrlrbrertrrbolrt c25_rrlrbrertrrbolre rfl rfl ?_
    refine run_exit rfl ?_
    simp only [sP, if_true, if_false, reduceCtorEq]
    refine rS c25_rrrl c25_rrrr rfl ?_
    refine run_region rfl ?_
    simp only [sX, simprocAttr, -List.reduceReplicate]
    refine run_ret rfl ?_
    (simp only [sP]; refine ⟨_, (by rw [resultsA_eq Try.results25]; simp only [sR, List.mapM_cons, List.mapM_nil]; rfl), ?_⟩)
    exact hR _ rfl (fun _ _ => rfl) (by rw [ho, hCe])
  | k + 1, i, C, H, t, hi, hC, hj, ho, ha, ht, hR => by
    have hi' : i < x.length := by omega
    have hz : (bs x).size = x.length := bs_size x
    have e1 : decide ((i : Int) < (x.length : Int)) = true := by simp; omega
    have e2 : decide (0 ≤ (i : Int) ∧ (i : Int) < (n : Int)) = true := by simp; omega
    have e3 : decide (0 ≤ ((i + 1 : Nat) : Int) ∧ ((i + 1 : Nat) : Int) < (n : Int)) = true := by simp; omega
    have w1 : IntKind.i64.wrap ((i : Int) + 1) = ((i + 1 : Nat) : Int) := by rw [IntWalk.i64_in _ (by omega)]; omega
    obtain ⟨wa, ha'⟩ := ha
    have gA := boolC_get A i (by omega)
    have gx := strIx_bs x i hi'
    have hlC : i + 1 + 1 ≤ (boolC C).length := by rw [boolC_len]; omega
    have hs := fun v => boolC_set C (i + 1) v
    have holt := getO_lt ho
    have hor : ∀ v, v = (A[i]'(by omega) && s.has (x[i]'hi').toNat) → ∀ j, j ≤ i + 1 → (C.set (i + 1) v)[j]? = (shL s x A)[j]? := by
      intro v hv j hj'
      by_cases h : j = i + 1
      · subst h
        rw [List.getElem?_set_self (by omega), hv]
        simp [shL, List.getElem?_zipWith, List.getElem?_eq_getElem (show i < A.length by omega), List.getElem?_eq_getElem hi']
      · rw [List.getElem?_set_ne (Ne.symm h)]
        exact hj j (by omega)
    cases hAi : A[i]'(by omega) with
    | false =>
      rw [hAi] at gA
      (refine run_loopk (b := c25_rrlrbrertrrbo) rfl keep25_8 ?_; rw [ht])
      refine rS c25_rrlrbrertrrbol c25_rrlrbrertrrbor rfl ?_
      refine rS c25_rrlrbrertrrboll c25_rrlrbrertrrbolr rfl ?_
      refine run_region rfl ?_
      simp only [sX, simprocAttr, -List.reduceReplicate, e1, hz]
      refine rT c25_rrlrbrertrrbolrt c25_rrlrbrertrrbolre rfl rfl ?_
      refine run_skip rfl ?_
      simp only [sP]
      refine rS c25_rrlrbrertrrborl c25_rrlrbrertrrborr rfl ?_
      refine run_block (b := c25_rrlrbrertrrborlb) rfl ?_
      refine run_regionG rfl c25_rrlrbrertrrborlb_gs ?_
      simp only [sX, simprocAttr, -List.reduceReplicate, e2, e3, w1, ha', ho, gA, hlC, hs, hlim]
      refine run_region rfl ?_
      simp only [sX, simprocAttr, -List.reduceReplicate, w1]
      refine set_step lim R s x A fb ob n hA hx hlim hfb hn k (i + 1) (C.set (i + 1) false) _ _ (by omega) (by simpa using hC) (hor false (by rw [hAi]; rfl)) (getO_set_self holt) ⟨wa, by rw [getO_set_ne hfb]; exact ha'⟩ (by simp only [sC, Nat.reduceBEq, Nat.reduceAdd]) ?_
      intro H1 h1 h2 h3
      exact hR H1 (by rw [h1, List.length_set]) (fun b hb => by rw [h2 b hb, getO_set_ne hb]) h3
    | true =>
      rw [hAi] at gA
      have hc : (x[i]'hi').toNat < 256 := (x[i]'hi').toNat_lt
      have e4 : decide (0 ≤ (((x[i]'hi').toNat : Nat) : Int) ∧ (((x[i]'hi').toNat : Nat) : Int) < 256) = true := by simp; omega
      have gT := tbl_get s _ hc
      have e5 : (((256 : Nat) : Int)) = 256 := rfl
      (refine run_loopk (b := c25_rrlrbrertrrbo) rfl keep25_8 ?_; rw [ht])
      refine rS c25_rrlrbrertrrbol c25_rrlrbrertrrbor rfl ?_
      refine rS c25_rrlrbrertrrboll c25_rrlrbrertrrbolr rfl ?_
      refine run_region rfl ?_
      simp only [sX, simprocAttr, -List.reduceReplicate, e1, hz]
      refine rT c25_rrlrbrertrrbolrt c25_rrlrbrertrrbolre rfl rfl ?_
      refine run_skip rfl ?_
      simp only [sP]
      refine rS c25_rrlrbrertrrborl c25_rrlrbrertrrborr rfl ?_
      refine run_block (b := c25_rrlrbrertrrborlb) rfl ?_
      refine run_regionG rfl c25_rrlrbrertrrborlb_gs ?_
      simp only [sX, simprocAttr, -List.reduceReplicate, e2, e3, e4, e5, w1, ha', ho, gA, gx, gT, hlC, hs, hlim]
      refine run_region rfl ?_
      simp only [sX, simprocAttr, -List.reduceReplicate, w1]
      refine set_step lim R s x A fb ob n hA hx hlim hfb hn k (i + 1) (C.set (i + 1) (s.has (x[i]'hi').toNat)) _ _ (by omega) (by simpa using hC) (hor _ (by rw [hAi]; rfl)) (getO_set_self holt) ⟨wa, by rw [getO_set_ne hfb]; exact ha'⟩ (by simp only [sC, Nat.reduceBEq, Nat.reduceAdd]) ?_
      intro H1 h1 h2 h3
      exact hR H1 (by rw [h1, List.length_set]) (fun b hb => by rw [h2 b hb, getO_set_ne hb]) h3
end Go.Proofs.Ytmgofjgfmcmceaa
end
section
namespace Go.Proofs.Ytmgofjgfmcmceaa
open Go.RowKit
set_option maxRecDepth 4000
set_option maxHeartbeats 2000000

/-- What a step of this tree leads to is told by the row it begins with. -/
def StepP (T : Tr) (x : List UInt8) : Prop := ∀ l : List Bool, l.length = x.length + 1 → ∃ l' : List Bool, l'.length = l.length ∧
  ∀ (lim : Nat) (H : Hp) (S : Nat → Prop) (p : Option Addr) (n fb m : Nat), IsRe H S T (reC T.k T.s p n) → isPl H fb l → m = l.length →
    CallEx X lim 25 [reV T.k T.s p n, .string (bs x), .slice (some ⟨fb, 0, none⟩) m m] H (NewPl H m l')
def StarP (T : Tr) (x : List UInt8) : Prop := ∀ l : List Bool, l.length = x.length + 1 → ∃ l' : List Bool, l'.length = l.length ∧
  ∀ (lim : Nat) (H : Hp) (S : Nat → Prop) (p : Option Addr) (n fb m : Nat), IsRe H S T (reC T.k T.s p n) → isPl H fb l → m = l.length →
    CallEx X lim 34 [reV T.k T.s p n, .string (bs x), .slice (some ⟨fb, 0, none⟩) m m] H (NewPl H m l')

theorem cmp_loop (lim : Nat) (R : Value → Hp → Prop) (H : Hp) (x : List UInt8) (cs : List Value) (L M : List Bool) (lb mb m : Nat) (hL : L.length = m) (hM : M.length = m) (hl : isPl H lb L) (hm : isPl H mb M) (hn : m ≤ 1000000)
    (hS : L = M → R (.slice (some ⟨lb, 0, none⟩) m m) H)
    (hD : L ≠ M → ∀ t, clrF [1, 3, 7] 0 t = (.undef :: .val (.string (bs x)) :: .undef :: .box cs :: .undef :: .undef :: .undef :: .val (.slice (some ⟨mb, 0, none⟩) m m) :: .undef :: .undef :: .undef :: .undef :: .undef :: .undef :: .undef :: .undef :: .undef :: .undef :: .undef :: .undef :: .undef :: .undef :: .undef :: .undef :: .undef :: .undef :: .undef :: .undef :: .undef :: .undef :: .undef :: .undef :: .undef :: .undef :: .undef :: .undef :: .undef :: .undef :: .undef :: .undef :: .undef :: .undef :: .undef :: .undef :: .undef :: .undef :: .undef :: .undef :: .undef :: .undef :: .undef :: .undef :: .undef :: .undef :: .undef :: .undef :: .undef :: .undef :: []) → RUN X 34 lim (fun t1 H1 => ∃ v, resultsA X.P Try.f34 t1 = some v ∧ R v H1) [.blk 2] (.loop c34_rrrbo) t H) :
    ∀ (k i : Nat) (b : Bool) (t : List TV), i + k = m → (b = true ↔ L.take i = M.take i) →
    clrF [1, 3, 7, 8, 9, 10] 0 t = (.undef :: .val (.string (bs x)) :: .undef :: .box cs :: .undef :: .undef :: .undef :: .val (.slice (some ⟨lb, 0, none⟩) m m) :: .val (.slice (some ⟨mb, 0, none⟩) m m) :: .val (.bool b) :: .val (.int .i64 (i : Int)) :: .undef :: .undef :: .undef :: .undef :: .undef :: .undef :: .undef :: .undef :: .undef :: .undef :: .undef :: .undef :: .undef :: .undef :: .undef :: .undef :: .undef :: .undef :: .undef :: .undef :: .undef :: .undef :: .undef :: .undef :: .undef :: .undef :: .undef :: .undef :: .undef :: .undef :: .undef :: .undef :: .undef :: .undef :: .undef :: .undef :: .undef :: .undef :: .undef :: .undef :: .undef :: .undef :: .undef :: .undef :: .undef :: .undef :: .undef :: []) →
    RUN X 34 lim (fun t1 H1 => ∃ v, resultsA X.P Try.f34 t1 = some v ∧ R v H1) [.blk 4, .code c34_rrrbobrrr, .blk 3, .lp c34_rrrbo, .blk 2] (.loop c34_rrrbobrrlrbo) t H
  | 0, i, b, t, hi, hb, ht => by
    have e1 : decide ((i : Int) < (m : Int)) = false := by simp; omega
    rw [List.take_of_length_le (by omega), List.take_of_length_le (by omega)] at hb
    cases b with
    | true =>
      (refine run_loopk (b := c34_rrrbobrrlrbo) rfl keep34_7 ?_; rw [ht])
      refine rS c34_rrrbobrrlrbol c34_rrrbobrrlrbor rfl ?_
      refine rS c34_rrrbobrrlrboll c34_rrrbobrrlrbolr rfl ?_
      refine run_region rfl ?_
      simp only [sX, simprocAttr, -List.reduceReplicate, e1]
      refine rF c34_rrrbobrrlrbolrt c34_rrrbobrrlrbolre rfl rfl ?_
      refine run_exit rfl ?_
      simp only [sP, Nat.reduceEqDiff, if_true, if_false]
      refine rS c34_rrrbobrrrl c34_rrrbobrrrr rfl ?_
      refine rS c34_rrrbobrrrll c34_rrrbobrrrlr rfl ?_
      refine run_region rfl ?_
      simp only [sX, simprocAttr, -List.reduceReplicate]
      refine rT c34_rrrbobrrrlrt c34_rrrbobrrrlre rfl rfl ?_
      refine rS c34_rrrbobrrrlrtl c34_rrrbobrrrlrtr rfl ?_
      refine run_region rfl ?_
      simp only [sX, simprocAttr, -List.reduceReplicate]
      refine run_ret rfl ?_
      (simp only [sP]; refine ⟨_, (by rw [resultsA_eq Try.results34]; simp only [sR, List.mapM_cons, List.mapM_nil]; rfl), ?_⟩)
      exact hS (hb.mp rfl)
    | false =>
      have hne : L ≠ M := fun h => by have := hb.mpr h; cases this
      (refine run_loopk (b := c34_rrrbobrrlrbo) rfl keep34_7 ?_; rw [ht])
      refine rS c34_rrrbobrrlrbol c34_rrrbobrrlrbor rfl ?_
      refine rS c34_rrrbobrrlrboll c34_rrrbobrrlrbolr rfl ?_
      refine run_region rfl ?_
      simp only [sX, simprocAttr, -List.reduceReplicate, e1]
      refine rF c34_rrrbobrrlrbolrt c34_rrrbobrrlrbolre rfl rfl ?_
      refine run_exit rfl ?_
      simp only [sP, Nat.reduceEqDiff, if_true, if_false]
      refine rS c34_rrrbobrrrl c34_rrrbobrrrr rfl ?_
      refine rS c34_rrrbobrrrll c34_rrrbobrrrlr rfl ?_
      refine run_region rfl ?_
      simp only [sX, simprocAttr, -List.reduceReplicate]
      refine rF c34_rrrbobrrrlrt c34_rrrbobrrrlre rfl rfl ?_
      refine run_skip rfl ?_
      simp only [sP]
      refine run_region rfl ?_
      simp only [sX, simprocAttr, -List.reduceReplicate]
      exact hD hne _ (by simp only [sC, Nat.reduceBEq, Nat.reduceAdd])
  | k + 1, i, b, t, hi, hb, ht => by
    have hi' : i < m := by omega
    have e1 : decide ((i : Int) < (m : Int)) = true := by simp; omega
    have e2 : decide (0 ≤ (i : Int) ∧ (i : Int) < (m : Int)) = true := by simp; omega
    have w1 : IntKind.i64.wrap ((i : Int) + 1) = ((i + 1 : Nat) : Int) := by rw [IntWalk.i64_in _ (by omega)]; omega
    obtain ⟨wl, hl'⟩ := hl
    obtain ⟨wm, hm'⟩ := hm
    have g1 := boolC_get L i (by omega)
    have g2 := boolC_get M i (by omega)
    have l1 := getO_lt hl'
    have l2 := getO_lt hm'
    have tk : L.take (i + 1) = M.take (i + 1) ↔ L.take i = M.take i ∧ L[i]'(by omega) = M[i]'(by omega) := by
      rw [List.take_add_one, List.take_add_one, List.getElem?_eq_getElem (by omega : i < L.length), List.getElem?_eq_getElem (by omega : i < M.length)]
      constructor
      · intro h
        have := List.append_inj h (by rw [List.length_take, List.length_take, hL, hM])
        refine ⟨this.1, ?_⟩
        simpa using this.2
      · rintro ⟨h, h'⟩
        rw [h, h']
    cases b with
    | true =>
      (refine run_loopk (b := c34_rrrbobrrlrbo) rfl keep34_7 ?_; rw [ht])
      refine rS c34_rrrbobrrlrbol c34_rrrbobrrlrbor rfl ?_
      refine rS c34_rrrbobrrlrboll c34_rrrbobrrlrbolr rfl ?_
      refine run_region rfl ?_
      simp only [sX, simprocAttr, -List.reduceReplicate, e1]
      refine rT c34_rrrbobrrlrbolrt c34_rrrbobrrlrbolre rfl rfl ?_
      refine run_skip rfl ?_
      simp only [sP]
      refine rS c34_rrrbobrrlrborl c34_rrrbobrrlrborr rfl ?_
      refine run_block (b := c34_rrrbobrrlrborlb) rfl ?_
      refine run_drawG rfl c34_rrrbobrrlrborlb_ok c34_rrrbobrrlrborlb_dr c34_rrrbobrrlrborlb_gs ?_
      simp only [sX, simprocAttr, -List.reduceReplicate, e2, hl', hm', g1, g2, l1, l2, bin_beql]
      refine run_region rfl ?_
      simp only [sX, simprocAttr, -List.reduceReplicate, w1]
      exact cmp_loop lim R H x cs L M lb mb m hL hM ⟨wl, hl'⟩ ⟨wm, hm'⟩ hn hS hD k (i + 1) (L[i]'(by omega) == M[i]'(by omega)) _ (by omega) (by rw [tk, ← hb]; simp) (by simp only [sC, Nat.reduceBEq, Nat.reduceAdd])
    | false =>
      (refine run_loopk (b := c34_rrrbobrrlrbo) rfl keep34_7 ?_; rw [ht])
      refine rS c34_rrrbobrrlrbol c34_rrrbobrrlrbor rfl ?_
      refine rS c34_rrrbobrrlrboll c34_rrrbobrrlrbolr rfl ?_
      refine run_region rfl ?_
      simp only [sX, simprocAttr, -List.reduceReplicate, e1]
      refine rT c34_rrrbobrrlrbolrt c34_rrrbobrrlrbolre rfl rfl ?_
      refine run_skip rfl ?_
      simp only [sP]
      refine rS c34_rrrbobrrlrborl c34_rrrbobrrlrborr rfl ?_
      refine run_block (b := c34_rrrbobrrlrborlb) rfl ?_
      refine run_drawG rfl c34_rrrbobrrlrborlb_ok c34_rrrbobrrlrborlb_dr c34_rrrbobrrlrborlb_gs ?_
      simp only [sX, simprocAttr, -List.reduceReplicate]
      refine run_region rfl ?_
      simp only [sX, simprocAttr, -List.reduceReplicate, w1]
      exact cmp_loop lim R H x cs L M lb mb m hL hM ⟨wl, hl'⟩ ⟨wm, hm'⟩ hn hS hD k (i + 1) false _ (by omega) (by rw [tk, ← hb]; simp) (by simp only [sC, Nat.reduceBEq, Nat.reduceAdd])

theorem orL_count : ∀ (A B : List Bool), B.length = A.length → orL A B ≠ A → (orL A B).count false < A.count false
  | [], [], _, h => absurd rfl h
  | a :: A, b :: B, hl, h => by
    simp only [List.length_cons, Nat.add_right_cancel_iff] at hl
    have hle : ∀ (A B : List Bool), B.length = A.length → (orL A B).count false ≤ A.count false := by
      intro A
      induction A with
      | nil => intro B h; cases B with
        | nil => simp [orL]
        | cons _ _ => cases h
      | cons a A ih => intro B h; cases B with
        | nil => cases h
        | cons b B =>
          simp only [List.length_cons, Nat.add_right_cancel_iff] at h
          have := ih B h
          simp only [orL, List.zipWith_cons_cons, List.count_cons] at this ⊢
          cases a <;> cases b <;> simp <;> omega
    by_cases h' : orL A B = A
    · have hab : (a || b) ≠ a := fun e => h (by simp only [orL, List.zipWith_cons_cons] at h' ⊢; rw [e, h'])
      have := hle A B hl
      simp only [orL, List.zipWith_cons_cons, List.count_cons] at this ⊢
      cases a <;> cases b <;> simp at hab ⊢ <;> omega
    · have := orL_count A B hl h'
      simp only [orL, List.zipWith_cons_cons, List.count_cons] at this ⊢
      cases a <;> cases b <;> simp <;> omega

theorem star_fix (T : Tr) (x : List UInt8) (hx : x.length ≤ 1000) (hT : StepP T x) : ∀ (c : Nat) (L : List Bool), L.count false ≤ c → L.length = x.length + 1 → ∃ L' : List Bool, L'.length = L.length ∧
    ∀ (lim : Nat) (R : Value → Hp → Prop) (H : Hp) (S : Nat → Prop) (p : Option Addr) (n lb m : Nat) (t : List TV), IsRe H S T (reC T.k T.s p n) → isPl H lb L → m = L.length →
      clrF [1, 3, 7] 0 t = (.undef :: .val (.string (bs x)) :: .undef :: .box (reC T.k T.s p n) :: .undef :: .undef :: .undef :: .val (.slice (some ⟨lb, 0, none⟩) m m) :: .undef :: .undef :: .undef :: .undef :: .undef :: .undef :: .undef :: .undef :: .undef :: .undef :: .undef :: .undef :: .undef :: .undef :: .undef :: .undef :: .undef :: .undef :: .undef :: .undef :: .undef :: .undef :: .undef :: .undef :: .undef :: .undef :: .undef :: .undef :: .undef :: .undef :: .undef :: .undef :: .undef :: .undef :: .undef :: .undef :: .undef :: .undef :: .undef :: .undef :: .undef :: .undef :: .undef :: .undef :: .undef :: .undef :: .undef :: .undef :: .undef :: .undef :: []) →
      (∀ H1 b, isPl H1 b L' → Gr H H1 → R (.slice (some ⟨b, 0, none⟩) m m) H1) →
      RUN X 34 lim (fun t1 H1 => ∃ v, resultsA X.P Try.f34 t1 = some v ∧ R v H1) [.blk 2] (.loop c34_rrrbo) t H := by
  intro c
  induction c with
  | zero =>
    intro L hc hL
    obtain ⟨L1, hl1, hs⟩ := hT L hL
    have hsame : L = orL L L1 := by
      apply Classical.byContradiction
      intro h
      have := orL_count L L1 hl1 (fun e => h e.symm)
      omega
    refine ⟨L, rfl, ?_⟩
    intro lim R H S p n lb m t hI hp hm ht hR
    unfold reC at ht
    unfold reV at hs
    (refine run_loopk (b := c34_rrrbo) rfl keep34_4 ?_; rw [ht])
    refine run_block (b := c34_rrrbob) rfl ?_
    refine rS c34_rrrbobl c34_rrrbobr rfl ?_
    refine run_region rfl ?_
    simp only [sX, simprocAttr, -List.reduceReplicate]
    refine call_of (hs _ _ S p n lb m hI hp hm) ?_
    rintro v H1 ⟨b1, rfl, hp1, hg1⟩
    simp only [sX, simprocAttr, -List.reduceReplicate]
    refine call_of (either_ok _ _ L L1 lb b1 m hm.symm (by omega) (hp.gr hg1) hp1 (by omega)) ?_
    rintro v H2 ⟨b2, rfl, hp2, hg2⟩
    simp only [sX, simprocAttr, -List.reduceReplicate]
    refine rS c34_rrrbobrl c34_rrrbobrr rfl ?_
    refine run_region rfl ?_
    simp only [sX, simprocAttr, -List.reduceReplicate]
    refine rS c34_rrrbobrrl c34_rrrbobrrr rfl ?_
    refine rS c34_rrrbobrrll c34_rrrbobrrlr rfl ?_
    refine run_region rfl ?_
    simp only [sX, simprocAttr, -List.reduceReplicate]
    refine run_block (b := c34_rrrbobrrlrb) rfl ?_
    refine cmp_loop _ R _ x _ L (orL L L1) lb b2 m hm.symm (by rw [orL_len hl1, hm]) ((hp.gr hg1).gr hg2) hp2 (by omega) (fun _ => hR _ lb ((hp.gr hg1).gr hg2) (hg1.trans hg2)) (fun h => absurd hsame h) m 0 true _ (by omega) (by simp) (by simp only [sC, Nat.reduceBEq, Nat.reduceAdd]; rfl)
  | succ c ih =>
    intro L hc hL
    obtain ⟨L1, hl1, hs⟩ := hT L hL
    by_cases hsame : L = orL L L1
    · refine ⟨L, rfl, ?_⟩
      intro lim R H S p n lb m t hI hp hm ht hR
      unfold reC at ht
      unfold reV at hs
      (refine run_loopk (b := c34_rrrbo) rfl keep34_4 ?_; rw [ht])
      refine run_block (b := c34_rrrbob) rfl ?_
      refine rS c34_rrrbobl c34_rrrbobr rfl ?_
      refine run_region rfl ?_
      simp only [sX, simprocAttr, -List.reduceReplicate]
      refine call_of (hs _ _ S p n lb m hI hp hm) ?_
      rintro v H1 ⟨b1, rfl, hp1, hg1⟩
      simp only [sX, simprocAttr, -List.reduceReplicate]
      refine call_of (either_ok _ _ L L1 lb b1 m hm.symm (by omega) (hp.gr hg1) hp1 (by omega)) ?_
      rintro v H2 ⟨b2, rfl, hp2, hg2⟩
      simp only [sX, simprocAttr, -List.reduceReplicate]
      refine rS c34_rrrbobrl c34_rrrbobrr rfl ?_
      refine run_region rfl ?_
      simp only [sX, simprocAttr, -List.reduceReplicate]
      refine rS c34_rrrbobrrl c34_rrrbobrrr rfl ?_
      refine rS c34_rrrbobrrll c34_rrrbobrrlr rfl ?_
      refine run_region rfl ?_
      simp only [sX, simprocAttr, -List.reduceReplicate]
      refine run_block (b := c34_rrrbobrrlrb) rfl ?_
      refine cmp_loop _ R _ x _ L (orL L L1) lb b2 m hm.symm (by rw [orL_len hl1, hm]) ((hp.gr hg1).gr hg2) hp2 (by omega) (fun _ => hR _ lb ((hp.gr hg1).gr hg2) (hg1.trans hg2)) (fun h => absurd hsame h) m 0 true _ (by omega) (by simp) (by simp only [sC, Nat.reduceBEq, Nat.reduceAdd]; rfl)
    · have hcnt := orL_count L L1 hl1 (fun e => hsame e.symm)
      have hlen := orL_len hl1
      obtain ⟨L', hl', hs'⟩ := ih (orL L L1) (by omega) (by omega)
      refine ⟨L', by omega, ?_⟩
      intro lim R H S p n lb m t hI hp hm ht hR
      unfold reC at ht
      unfold reV at hs
      (refine run_loopk (b := c34_rrrbo) rfl keep34_4 ?_; rw [ht])
      refine run_block (b := c34_rrrbob) rfl ?_
      refine rS c34_rrrbobl c34_rrrbobr rfl ?_
      refine run_region rfl ?_
      simp only [sX, simprocAttr, -List.reduceReplicate]
      refine call_of (hs _ _ S p n lb m hI hp hm) ?_
      rintro v H1 ⟨b1, rfl, hp1, hg1⟩
      simp only [sX, simprocAttr, -List.reduceReplicate]
      refine call_of (either_ok _ _ L L1 lb b1 m hm.symm (by omega) (hp.gr hg1) hp1 (by omega)) ?_
      rintro v H2 ⟨b2, rfl, hp2, hg2⟩
      simp only [sX, simprocAttr, -List.reduceReplicate]
      refine rS c34_rrrbobrl c34_rrrbobrr rfl ?_
      refine run_region rfl ?_
      simp only [sX, simprocAttr, -List.reduceReplicate]
      refine rS c34_rrrbobrrl c34_rrrbobrrr rfl ?_
      refine rS c34_rrrbobrrll c34_rrrbobrrlr rfl ?_
      refine run_region rfl ?_
      simp only [sX, simprocAttr, -List.reduceReplicate]
      refine run_block (b := c34_rrrbobrrlrb) rfl ?_
      refine cmp_loop _ R _ x _ L (orL L L1) lb b2 m hm.symm (by rw [orL_len hl1, hm]) ((hp.gr hg1).gr hg2) hp2 (by omega) (fun h => absurd h hsame) (fun _ t' ht' => hs' lim R _ S p n b2 m t' ((hI.gr hg1).gr hg2) hp2 (by omega) ht' (fun H3 b hb hg3 => hR H3 b hb ((hg1.trans hg2).trans hg3))) m 0 true _ (by omega) (by simp) (by simp only [sC, Nat.reduceBEq, Nat.reduceAdd]; rfl)
end Go.Proofs.Ytmgofjgfmcmceaa
end
section
namespace Go.Proofs.Ytmgofjgfmcmceaa
open Go.RowKit
set_option maxRecDepth 4000
set_option maxHeartbeats 2000000

def StripP (T : Tr) (x : List UInt8) : Prop := ∀ l : List Bool, l.length = x.length + 1 → ∃ l' : List Bool, l'.length = l.length ∧
  ∀ (lim : Nat) (R : Value → Hp → Prop) (H : Hp) (S : Nat → Prop) (p : Option Addr) (n fb m : Nat) (t : List TV), IsRe H S T (reC T.k T.s p n) → isPl H fb l → m = l.length →
    clrF [1, 2, 3] 0 t = (.undef :: .val (.string (bs x)) :: .val (.slice (some ⟨fb, 0, none⟩) m m) :: .box (reC T.k T.s p n) :: .undef :: .undef :: .undef :: .undef :: .undef :: .undef :: .undef :: .undef :: .undef :: .undef :: .undef :: .undef :: .undef :: .undef :: .undef :: .undef :: .undef :: .undef :: .undef :: .undef :: .undef :: .undef :: .undef :: .undef :: .undef :: .undef :: .undef :: .undef :: .undef :: .undef :: .undef :: .undef :: .undef :: .undef :: .undef :: .undef :: .undef :: .undef :: .undef :: .undef :: .undef :: .undef :: .undef :: .undef :: .undef :: .undef :: .undef :: .undef :: .undef :: .undef :: .undef :: .undef :: .undef :: .undef :: []) →
    (∀ H1 b, isPl H1 b l' → Gr H H1 → R (.slice (some ⟨b, 0, none⟩) m m) H1) →
    RUN X 34 lim (fun t1 H1 => ∃ v, resultsA X.P Try.f34 t1 = some v ∧ R v H1) [.blk 0, .code c34_rr] (.loop c34_rlbo) t H

/-- No sign at its top: what it is. -/
theorem strip_end {k : Int} {s : S4} {kids : List Tr} {x : List UInt8} (hx : x.length ≤ 1000) (h4 : decide (k = 4) = false) (h5 : decide (k = 5) = false) (h6 : decide (k = 6) = false) (hT : StepP (.node k s kids) x) : StripP (.node k s kids) x := by
  intro l hl
  have hll : (orL l l).length = x.length + 1 := by rw [orL_len rfl]; exact hl
  obtain ⟨l', hl', hs⟩ := star_fix _ x hx hT _ (orL l l) (Nat.le_refl _) hll
  refine ⟨l', by rw [hl', orL_len rfl], ?_⟩
  intro lim R H S p n fb m t hI hp hm ht hR
  simp only [Tr.k, Tr.s] at hI hs ht
  unfold reC at ht
  unfold reC at hs
  (refine run_loopk (b := c34_rlbo) rfl keep34_1 ?_; rw [ht])
  refine rS c34_rlbol c34_rlbor rfl ?_
  refine rS c34_rlboll c34_rlbolr rfl ?_
  refine run_regionG rfl c34_rlboll_gs ?_
  simp only [sX, simprocAttr, -List.reduceReplicate, h4, h5, h6]
  refine rF c34_rlbolrt c34_rlbolre rfl rfl ?_
  refine run_exit rfl ?_
  simp only [sP, if_true]
  refine rS c34_rrl c34_rrr rfl ?_
  refine run_region rfl ?_
  simp only [sX, simprocAttr, -List.reduceReplicate]
  refine call_of (either_ok _ _ l l fb fb m hm.symm hm.symm hp hp (by omega)) ?_
  rintro v H1 ⟨b1, rfl, hp1, hg1⟩
  simp only [sX, simprocAttr, -List.reduceReplicate]
  refine run_block (b := c34_rrrb) rfl ?_
  exact hs lim R H1 S p n b1 m _ (hI.gr hg1) hp1 (by omega) (by simp only [sC, Nat.reduceBEq, Nat.reduceAdd]) (fun H2 b hb hg2 => hR H2 b hb (hg1.trans hg2))
/-- A sign at its top is left off. -/
theorem strip_1 {k : Int} {A : Tr} {x : List UInt8} (hk : k = 4 ∨ k = 5 ∨ k = 6) (ha : StripP A x) : StripP (.node k S4.z [A]) x := by
  intro l hl
  obtain ⟨l', hl', hs⟩ := ha l hl
  refine ⟨l', hl', ?_⟩
  intro lim R H S p n fb m t hI hp hm ht hR
  simp only [Tr.k, Tr.s] at hI ht
  obtain ⟨rfl, bl, wr, p1, rfl, _, ho, hA⟩ := hI.inv1
  unfold reC at ht ho
  have hs' := hs lim R H S p1 A.kids.length fb m
  unfold reC at hs'
  have hn0 : (0 : Int) < ((1 : Nat) : Int) := by decide
  rcases hk with rfl | rfl | rfl
  · skip
    (refine run_loopk (b := c34_rlbo) rfl keep34_1 ?_; rw [ht])
    refine rS c34_rlbol c34_rlbor rfl ?_
    refine rS c34_rlboll c34_rlbolr rfl ?_
    refine run_regionG rfl c34_rlboll_gs ?_
    simp only [sX, simprocAttr, -List.reduceReplicate]
    refine rT c34_rlbolrt c34_rlbolre rfl rfl ?_
    refine run_skip rfl ?_
    simp only [sP]
    refine run_block (b := c34_rlborb) rfl ?_
    refine run_region rfl ?_
    simp only [sX, simprocAttr, -List.reduceReplicate, ho]
    exact hs' _ hA hp hm (by simp only [sC, Nat.reduceBEq, Nat.reduceAdd]) hR
  · skip
    (refine run_loopk (b := c34_rlbo) rfl keep34_1 ?_; rw [ht])
    refine rS c34_rlbol c34_rlbor rfl ?_
    refine rS c34_rlboll c34_rlbolr rfl ?_
    refine run_regionG rfl c34_rlboll_gs ?_
    simp only [sX, simprocAttr, -List.reduceReplicate]
    refine rT c34_rlbolrt c34_rlbolre rfl rfl ?_
    refine run_skip rfl ?_
    simp only [sP]
    refine run_block (b := c34_rlborb) rfl ?_
    refine run_region rfl ?_
    simp only [sX, simprocAttr, -List.reduceReplicate, ho]
    exact hs' _ hA hp hm (by simp only [sC, Nat.reduceBEq, Nat.reduceAdd]) hR
  · skip
    (refine run_loopk (b := c34_rlbo) rfl keep34_1 ?_; rw [ht])
    refine rS c34_rlbol c34_rlbor rfl ?_
    refine rS c34_rlboll c34_rlbolr rfl ?_
    refine run_regionG rfl c34_rlboll_gs ?_
    simp only [sX, simprocAttr, -List.reduceReplicate]
    refine rT c34_rlbolrt c34_rlbolre rfl rfl ?_
    refine run_skip rfl ?_
    simp only [sP]
    refine run_block (b := c34_rlborb) rfl ?_
    refine run_region rfl ?_
    simp only [sX, simprocAttr, -List.reduceReplicate, ho]
    exact hs' _ hA hp hm (by simp only [sC, Nat.reduceBEq, Nat.reduceAdd]) hR
theorem star_of {T : Tr} {x : List UInt8} (h : StripP T x) : StarP T x := by
  intro l hl
  obtain ⟨l', hl', hs⟩ := h l hl
  refine ⟨l', hl', ?_⟩
  intro lim H S p n fb m hI hp hm
  unfold reV
  unfold reC at hs
  (refine call_intro fun34 name34 body34 ?_; simp only [Try.ntmps34, List.map_cons, List.map_nil, List.length_cons, List.length_nil, Nat.zero_add, Nat.reduceAdd, Nat.reduceSub, List.replicate_succ, List.replicate_zero, List.cons_append, List.nil_append])
  refine rS c34_l c34_r rfl ?_
  refine run_region rfl ?_
  simp only [sX, simprocAttr, -List.reduceReplicate]
  refine rS c34_rl c34_rr rfl ?_
  refine run_block (b := c34_rlb) rfl ?_
  exact hs _ _ H S p n fb m _ hI hp hm (by simp only [sC, Nat.reduceBEq, Nat.reduceAdd]) (fun H1 b hb hg => ⟨b, rfl, hb, hg⟩)

theorem boolC_mk (H : Hp) (x : List UInt8) (m : Nat) (hx : x.length ≤ 1000) (hm : m = x.length + 1) : mkS X H (some 4) (some (.int .i64 (m : Int))) (some (.int .i64 (m : Int))) = some (.slice (some ⟨H.length, 0, none⟩) m m, H ++ [some ⟨true, 1, boolC (List.replicate m false)⟩]) := mkS_62 H m (by omega)

theorem copy_ok (H : Hp) (lim ob fb m : Nat) (l C : List Bool) (hl : l.length = m) (hC : C.length = m) (ho : getO H ob = some ⟨true, 1, boolC C⟩) (hp : isPl H fb l) (hlim : lim ≤ ob) :
    cpR X lim H 62 (some (.slice (some ⟨ob, 0, none⟩) m m)) (some (.slice (some ⟨fb, 0, none⟩) m m)) = some (.int .i64 m, H.set ob (some ⟨true, 1, boolC l⟩)) := by
  obtain ⟨w, hp⟩ := hp
  unfold cpR copyV
  simp only [el62, sz4, ho, hp, hlim]
  have hmin : Nat.min m m = m := Nat.min_self m
  rw [hmin]
  rw [if_pos ⟨trivial, trivial, trivial, trivial, by rw [boolC_len]; omega, by rw [boolC_len]; omega, by rw [List.drop_zero, Nat.mul_one, List.take_of_length_le (by rw [boolC_len]; omega)]; exact boolC_all l⟩]
  rw [setCells_all _ _ _ (by simp [boolC_len]; omega)]
  have : ((boolC l).drop 0).take (m * 1) = boolC l := by rw [List.drop_zero, Nat.mul_one, List.take_of_length_le (by rw [boolC_len]; omega)]
  rw [this]; simp

theorem step_empty (x : List UInt8) (hx : x.length ≤ 1000) : StepP (.node 0 S4.z []) x := by
  intro l hl
  refine ⟨l, rfl, ?_⟩
  intro lim H S p n fb m hI hp hm
  have hmk := boolC_mk H x m hx (by omega)
  have hp' : ∀ y, isPl (H ++ [y]) fb l := fun y => by obtain ⟨w, h⟩ := hp; exact ⟨w, by rw [getO_snoc (getO_lt h)]; exact h⟩
  have hcp := copy_ok (H ++ [some ⟨true, 1, boolC (List.replicate m false)⟩]) H.length H.length fb m l (List.replicate m false) hm.symm (by simp) getO_append_new (hp' _) (Nat.le_refl _)
  simp only [Tr.k, Tr.s] at hI ⊢
  obtain ⟨rfl, rfl⟩ := hI.inv0
  unfold reV
  (refine call_intro fun25 name25 body25 ?_; simp only [Try.ntmps25, List.map_cons, List.map_nil, List.length_cons, List.length_nil, Nat.zero_add, Nat.reduceAdd, Nat.reduceSub, List.replicate_succ, List.replicate_zero, List.cons_append, List.nil_append])
  refine rS c25_l c25_r rfl ?_
  refine run_region rfl ?_
  simp only [sX, simprocAttr, -List.reduceReplicate, pur25]
  refine rS c25_rl c25_rr rfl ?_
  refine run_region rfl ?_
  simp only [sX, simprocAttr, -List.reduceReplicate, exe_makeSlice, hmk]
  refine rS c25_rrl c25_rrr rfl ?_
  refine rS c25_rrll c25_rrlr rfl ?_
  refine run_region rfl ?_
  simp only [sX, simprocAttr, -List.reduceReplicate]
  refine run_block (b := c25_rrlrb) rfl ?_
  refine rS c25_rrlrbl c25_rrlrbr rfl ?_
  refine run_region rfl ?_
  simp only [sX, simprocAttr, -List.reduceReplicate]
  refine rT c25_rrlrbrt c25_rrlrbre rfl rfl ?_
  refine run_region rfl ?_
  simp only [sX, simprocAttr, -List.reduceReplicate, exe_copy, hcp]
  refine rS c25_rrrl c25_rrrr rfl ?_
  refine run_region rfl ?_
  simp only [sX, simprocAttr, -List.reduceReplicate]
  refine run_ret rfl ?_
  (simp only [sP]; refine ⟨_, (by rw [resultsA_eq Try.results25]; simp only [sR, List.mapM_cons, List.mapM_nil]; rfl), ?_⟩)
  exact ⟨_, rfl, ⟨true, getO_set_self (by rw [len_snoc]; omega)⟩, by rw [List.length_set, len_snoc]; omega, fun b hb => by rw [getO_set_ne (by omega), getO_snoc hb]⟩
theorem step_first (x : List UInt8) (hx : x.length ≤ 1000) : StepP (.node 7 S4.z []) x := by
  intro l hl
  have h0l : 0 < l.length := by omega
  refine ⟨(List.replicate l.length false).set 0 l[0], by simp, ?_⟩
  intro lim H S p n fb m hI hp hm
  subst hm
  have hmk := boolC_mk H x l.length hx (by omega)
  obtain ⟨w, hp⟩ := hp
  have hlt := getO_lt hp
  have g := boolC_get l 0 h0l
  have h0 : (0 : Int) < (l.length : Int) := by omega
  have hlC : 1 ≤ (boolC (List.replicate l.length false)).length := by rw [boolC_len]; simp; omega
  have hs := fun v => boolC_set (List.replicate l.length false) 0 v
  simp only [Tr.k, Tr.s] at hI ⊢
  obtain ⟨rfl, rfl⟩ := hI.inv0
  unfold reV
  (refine call_intro fun25 name25 body25 ?_; simp only [Try.ntmps25, List.map_cons, List.map_nil, List.length_cons, List.length_nil, Nat.zero_add, Nat.reduceAdd, Nat.reduceSub, List.replicate_succ, List.replicate_zero, List.cons_append, List.nil_append])
  refine rS c25_l c25_r rfl ?_
  refine run_region rfl ?_
  simp only [sX, simprocAttr, -List.reduceReplicate, pur25]
  refine rS c25_rl c25_rr rfl ?_
  refine run_region rfl ?_
  simp only [sX, simprocAttr, -List.reduceReplicate, exe_makeSlice, hmk]
  refine rS c25_rrl c25_rrr rfl ?_
  refine rS c25_rrll c25_rrlr rfl ?_
  refine run_region rfl ?_
  simp only [sX, simprocAttr, -List.reduceReplicate]
  refine run_block (b := c25_rrlrb) rfl ?_
  refine rS c25_rrlrbl c25_rrlrbr rfl ?_
  refine run_region rfl ?_
  simp only [sX, simprocAttr, -List.reduceReplicate]
  refine rF c25_rrlrbrt c25_rrlrbre rfl rfl ?_
  refine rS c25_rrlrbrel c25_rrlrbrer rfl ?_
  refine run_region rfl ?_
  simp only [sX, simprocAttr, -List.reduceReplicate]
  refine rF c25_rrlrbrert c25_rrlrbrere rfl rfl ?_
  refine rS c25_rrlrbrerel c25_rrlrbrerer rfl ?_
  refine run_region rfl ?_
  simp only [sX, simprocAttr, -List.reduceReplicate]
  refine rT c25_rrlrbrerert c25_rrlrbrerere rfl rfl ?_
  refine run_region rfl ?_
  simp only [sX, simprocAttr, -List.reduceReplicate, hp, hlt, g, h0, hlC, hs, Nat.le_refl]
  refine rS c25_rrrl c25_rrrr rfl ?_
  refine run_region rfl ?_
  simp only [sX, simprocAttr, -List.reduceReplicate]
  refine run_ret rfl ?_
  (simp only [sP]; refine ⟨_, (by rw [resultsA_eq Try.results25]; simp only [sR, List.mapM_cons, List.mapM_nil]; rfl), ?_⟩)
  exact ⟨_, rfl, ⟨true, getO_set_self (by rw [len_snoc]; omega)⟩, by rw [List.length_set, len_snoc]; omega, fun b hb => by rw [getO_set_ne (by omega), getO_snoc hb]⟩
theorem step_last (x : List UInt8) (hx : x.length ≤ 1000) : StepP (.node 8 S4.z []) x := by
  intro l hl
  have h0l : x.length < l.length := by omega
  refine ⟨(List.replicate l.length false).set x.length (l[x.length]'h0l), by simp, ?_⟩
  intro lim H S p n fb m hI hp hm
  subst hm
  have hmk := boolC_mk H x l.length hx (by omega)
  obtain ⟨w, hp⟩ := hp
  have hlt := getO_lt hp
  have hz : (bs x).size = x.length := bs_size x
  have g := boolC_get l x.length h0l
  have e2 : decide (0 ≤ (x.length : Int) ∧ (x.length : Int) < (l.length : Int)) = true := by simp; omega
  have hlC : x.length + 1 ≤ (boolC (List.replicate l.length false)).length := by rw [boolC_len]; simp; omega
  have hs := fun v => boolC_set (List.replicate l.length false) x.length v
  simp only [Tr.k, Tr.s] at hI ⊢
  obtain ⟨rfl, rfl⟩ := hI.inv0
  unfold reV
  (refine call_intro fun25 name25 body25 ?_; simp only [Try.ntmps25, List.map_cons, List.map_nil, List.length_cons, List.length_nil, Nat.zero_add, Nat.reduceAdd, Nat.reduceSub, List.replicate_succ, List.replicate_zero, List.cons_append, List.nil_append])
  refine rS c25_l c25_r rfl ?_
  refine run_region rfl ?_
  simp only [sX, simprocAttr, -List.reduceReplicate, pur25]
  refine rS c25_rl c25_rr rfl ?_
  refine run_region rfl ?_
  simp only [sX, simprocAttr, -List.reduceReplicate, exe_makeSlice, hmk]
  refine rS c25_rrl c25_rrr rfl ?_
  refine rS c25_rrll c25_rrlr rfl ?_
  refine run_region rfl ?_
  simp only [sX, simprocAttr, -List.reduceReplicate]
  refine run_block (b := c25_rrlrb) rfl ?_
  refine rS c25_rrlrbl c25_rrlrbr rfl ?_
  refine run_region rfl ?_
  simp only [sX, simprocAttr, -List.reduceReplicate]
  refine rF c25_rrlrbrt c25_rrlrbre rfl rfl ?_
  refine rS c25_rrlrbrel c25_rrlrbrer rfl ?_
  refine run_region rfl ?_
  simp only [sX, simprocAttr, -List.reduceReplicate]
  refine rF c25_rrlrbrert c25_rrlrbrere rfl rfl ?_
  refine rS c25_rrlrbrerel c25_rrlrbrerer rfl ?_
  refine run_region rfl ?_
  simp only [sX, simprocAttr, -List.reduceReplicate]
  refine rF c25_rrlrbrerert c25_rrlrbrerere rfl rfl ?_
  refine rS c25_rrlrbrererel c25_rrlrbrererer rfl ?_
  refine run_region rfl ?_
  simp only [sX, simprocAttr, -List.reduceReplicate]
  refine rT c25_rrlrbrererert c25_rrlrbrererere rfl rfl ?_
  refine run_region rfl ?_
  simp only [sX, simprocAttr, -List.reduceReplicate, hp, hlt, hz, g, e2, hlC, hs, Nat.le_refl]
  refine rS c25_rrrl c25_rrrr rfl ?_
  refine run_region rfl ?_
  simp only [sX, simprocAttr, -List.reduceReplicate]
  refine run_ret rfl ?_
  (simp only [sP]; refine ⟨_, (by rw [resultsA_eq Try.results25]; simp only [sR, List.mapM_cons, List.mapM_nil]; rfl), ?_⟩)
  exact ⟨_, rfl, ⟨true, getO_set_self (by rw [len_snoc]; omega)⟩, by rw [List.length_set, len_snoc]; omega, fun b hb => by rw [getO_set_ne (by omega), getO_snoc hb]⟩
theorem step_set (s : S4) (x : List UInt8) (hx : x.length ≤ 1000) : StepP (.node 1 s []) x := by
  intro l hl
  refine ⟨shL s x l, shL_len hl, ?_⟩
  intro lim H S p n fb m hI hp hm
  have hmk := boolC_mk H x m hx (by omega)
  obtain ⟨w, hp⟩ := hp
  have hlt := getO_lt hp
  have hpl := fun lim H => plain_ok lim H s
  unfold setV at hpl
  have hz1 : (List.replicate 256 (Value.bool false)).toArray.toList.all noRef = true := by simp [noRef]
  have hz2 : (List.replicate 256 (Value.bool false)).toArray.toList.all isCell = true := by simp [isCell]
  have hst : setCells (List.replicate 256 (Value.bool false)) 0 (tbl s) = tbl s := by rw [setCells_all _ _ _ (by simp [tbl_len])]; simp
  simp only [Tr.k, Tr.s] at hI ⊢
  obtain ⟨rfl, rfl⟩ := hI.inv0
  unfold reV
  (refine call_intro fun25 name25 body25 ?_; simp only [Try.ntmps25, List.map_cons, List.map_nil, List.length_cons, List.length_nil, Nat.zero_add, Nat.reduceAdd, Nat.reduceSub, List.replicate_succ, List.replicate_zero, List.cons_append, List.nil_append])
  refine rS c25_l c25_r rfl ?_
  refine run_region rfl ?_
  simp only [sX, simprocAttr, -List.reduceReplicate, pur25, eq_self]
  refine rS c25_rl c25_rr rfl ?_
  refine run_region rfl ?_
  simp only [sX, simprocAttr, -List.reduceReplicate, exe_makeSlice, hmk, eq_self]
  refine rS c25_rrl c25_rrr rfl ?_
  refine rS c25_rrll c25_rrlr rfl ?_
  refine run_region rfl ?_
  simp only [sX, simprocAttr, -List.reduceReplicate, eq_self]
  refine run_block (b := c25_rrlrb) rfl ?_
  refine rS c25_rrlrbl c25_rrlrbr rfl ?_
  refine run_region rfl ?_
  simp only [sX, simprocAttr, -List.reduceReplicate, eq_self]
  refine rF c25_rrlrbrt c25_rrlrbre rfl rfl ?_
  refine rS c25_rrlrbrel c25_rrlrbrer rfl ?_
  refine run_region rfl ?_
  simp only [sX, simprocAttr, -List.reduceReplicate, eq_self]
  refine rT c25_rrlrbrert c25_rrlrbrere rfl rfl ?_
  refine rS c25_rrlrbrertl c25_rrlrbrertr rfl ?_
  refine run_region rfl ?_
  simp only [sX, simprocAttr, -List.reduceReplicate, eq_self]
  refine call_of (hpl _ _) ?_
  rintro v H2 ⟨rfl, h2⟩
  subst h2
  simp only [sX, simprocAttr, -List.reduceReplicate, hz1, hz2, hst, tbl_len, tbl_all, List.length_replicate, eq_self]
  refine rS c25_rrlrbrertrl c25_rrlrbrertrr rfl ?_
  refine run_region rfl ?_
  simp only [sX, simprocAttr, -List.reduceReplicate, eq_self]
  refine run_block (b := c25_rrlrbrertrrb) rfl ?_
  refine set_step _ _ s x l fb H.length m hm.symm (by omega) (Nat.le_refl _) (by omega) (by omega) x.length 0 (List.replicate m false) _ _ (by omega) (by simp) (fun j hj => ?_) getO_append_new ⟨w, by rw [getO_snoc hlt]; exact hp⟩ (by simp only [sC, Nat.reduceBEq, Nat.reduceAdd]; rfl) ?_
  have : j = 0 := by omega
  subst this
  rw [shL, List.getElem?_cons_zero, List.getElem?_replicate, if_pos (by omega)]
  intro H1 h1 h2 h3
  rw [len_snoc] at h1
  exact ⟨_, rfl, ⟨true, h3⟩, by omega, fun b hb => by rw [h2 b (by omega), getO_snoc hb]⟩
theorem step_opt {A : Tr} {x : List UInt8} (hx : x.length ≤ 1000) (hA : StepP A x) : StepP (.node 6 S4.z [A]) x := by
  intro l hl
  obtain ⟨l1, hl1, hs⟩ := hA l hl
  refine ⟨orL l l1, orL_len hl1, ?_⟩
  intro lim H S p n fb m hI hp hm
  simp only [Tr.k, Tr.s] at hI ⊢
  obtain ⟨rfl, bl, wr, p1, rfl, _, ho, hA⟩ := hI.inv1
  have hbl := getO_lt ho
  have hmk := boolC_mk H x m hx (by omega)
  have hp0 : ∀ y, isPl (H ++ [y]) fb l := fun y => hp.gr (Gr.snoc H y)
  have hA0 : ∀ y, IsRe (H ++ [y]) S A (reC A.k A.s p1 A.kids.length) := fun y => hA.gr (Gr.snoc H y)
  have hbl' : bl < H.length + 1 := by omega
  unfold reC at ho
  unfold reV at hs ⊢
  (refine call_intro fun25 name25 body25 ?_; simp only [Try.ntmps25, List.map_cons, List.map_nil, List.length_cons, List.length_nil, Nat.zero_add, Nat.reduceAdd, Nat.reduceSub, List.replicate_succ, List.replicate_zero, List.cons_append, List.nil_append])
  refine rS c25_l c25_r rfl ?_
  refine run_region rfl ?_
  simp only [sX, simprocAttr, -List.reduceReplicate, pur25]
  refine rS c25_rl c25_rr rfl ?_
  refine run_region rfl ?_
  simp only [sX, simprocAttr, -List.reduceReplicate, exe_makeSlice, hmk]
  refine rS c25_rrl c25_rrr rfl ?_
  refine rS c25_rrll c25_rrlr rfl ?_
  refine run_region rfl ?_
  simp only [sX, simprocAttr, -List.reduceReplicate]
  refine run_block (b := c25_rrlrb) rfl ?_
  refine rS c25_rrlrbl c25_rrlrbr rfl ?_
  refine run_region rfl ?_
  simp only [sX, simprocAttr, -List.reduceReplicate]
  refine rF c25_rrlrbrt c25_rrlrbre rfl rfl ?_
  refine rS c25_rrlrbrel c25_rrlrbrer rfl ?_
  refine run_region rfl ?_
  simp only [sX, simprocAttr, -List.reduceReplicate]
  refine rF c25_rrlrbrert c25_rrlrbrere rfl rfl ?_
  refine rS c25_rrlrbrerel c25_rrlrbrerer rfl ?_
  refine run_region rfl ?_
  simp only [sX, simprocAttr, -List.reduceReplicate]
  refine rF c25_rrlrbrerert c25_rrlrbrerere rfl rfl ?_
  refine rS c25_rrlrbrererel c25_rrlrbrererer rfl ?_
  refine run_region rfl ?_
  simp only [sX, simprocAttr, -List.reduceReplicate]
  refine rF c25_rrlrbrererert c25_rrlrbrererere rfl rfl ?_
  refine rS c25_rrlrbrerererel c25_rrlrbrerererer rfl ?_
  refine run_region rfl ?_
  simp only [sX, simprocAttr, -List.reduceReplicate]
  refine rF c25_rrlrbrerererert c25_rrlrbrerererere rfl rfl ?_
  refine rS c25_rrlrbrererererel c25_rrlrbrererererer rfl ?_
  refine run_region rfl ?_
  simp only [sX, simprocAttr, -List.reduceReplicate]
  refine rF c25_rrlrbrererererert c25_rrlrbrererererere rfl rfl ?_
  refine rS c25_rrlrbrerererererel c25_rrlrbrerererererer rfl ?_
  refine run_region rfl ?_
  simp only [sX, simprocAttr, -List.reduceReplicate]
  refine rT c25_rrlrbrerererererert c25_rrlrbrerererererere rfl rfl ?_
  refine rS c25_rrlrbrerererererertl c25_rrlrbrerererererertr rfl ?_
  refine run_region rfl ?_
  simp only [sX, simprocAttr, -List.reduceReplicate, ho, hbl]
  refine call_of (hs _ _ S p1 A.kids.length fb m (hA0 _) (hp0 _) hm) ?_
  rintro v H1 ⟨b1, rfl, hp1, hg1⟩
  simp only [sX, simprocAttr, -List.reduceReplicate]
  refine call_of (either_ok _ _ l l1 fb b1 m hm.symm (by omega) ((hp0 _).gr hg1) hp1 (by omega)) ?_
  rintro v H2 ⟨b2, rfl, hp2, hg2⟩
  simp only [sX, simprocAttr, -List.reduceReplicate]
  refine run_ret rfl ?_
  (simp only [sP]; refine ⟨_, (by rw [resultsA_eq Try.results25]; simp only [sR, List.mapM_cons, List.mapM_nil]; rfl), ?_⟩)
  exact ⟨b2, rfl, hp2, (Gr.snoc _ _).trans (hg1.trans hg2)⟩
theorem step_star {A : Tr} {x : List UInt8} (hx : x.length ≤ 1000) (hA : StarP A x) : StepP (.node 4 S4.z [A]) x := by
  intro l hl
  obtain ⟨l1, hl1, hs⟩ := hA l hl
  refine ⟨l1, hl1, ?_⟩
  intro lim H S p n fb m hI hp hm
  simp only [Tr.k, Tr.s] at hI ⊢
  obtain ⟨rfl, bl, wr, p1, rfl, _, ho, hA⟩ := hI.inv1
  have hbl := getO_lt ho
  have hmk := boolC_mk H x m hx (by omega)
  have hp0 : ∀ y, isPl (H ++ [y]) fb l := fun y => hp.gr (Gr.snoc H y)
  have hA0 : ∀ y, IsRe (H ++ [y]) S A (reC A.k A.s p1 A.kids.length) := fun y => hA.gr (Gr.snoc H y)
  have hbl' : bl < H.length + 1 := by omega
  unfold reC at ho
  unfold reV at hs ⊢
  (refine call_intro fun25 name25 body25 ?_; simp only [Try.ntmps25, List.map_cons, List.map_nil, List.length_cons, List.length_nil, Nat.zero_add, Nat.reduceAdd, Nat.reduceSub, List.replicate_succ, List.replicate_zero, List.cons_append, List.nil_append])
  refine rS c25_l c25_r rfl ?_
  refine run_region rfl ?_
  simp only [sX, simprocAttr, -List.reduceReplicate, pur25]
  refine rS c25_rl c25_rr rfl ?_
  refine run_region rfl ?_
  simp only [sX, simprocAttr, -List.reduceReplicate, exe_makeSlice, hmk]
  refine rS c25_rrl c25_rrr rfl ?_
  refine rS c25_rrll c25_rrlr rfl ?_
  refine run_region rfl ?_
  simp only [sX, simprocAttr, -List.reduceReplicate]
  refine run_block (b := c25_rrlrb) rfl ?_
  refine rS c25_rrlrbl c25_rrlrbr rfl ?_
  refine run_region rfl ?_
  simp only [sX, simprocAttr, -List.reduceReplicate]
  refine rF c25_rrlrbrt c25_rrlrbre rfl rfl ?_
  refine rS c25_rrlrbrel c25_rrlrbrer rfl ?_
  refine run_region rfl ?_
  simp only [sX, simprocAttr, -List.reduceReplicate]
  refine rF c25_rrlrbrert c25_rrlrbrere rfl rfl ?_
  refine rS c25_rrlrbrerel c25_rrlrbrerer rfl ?_
  refine run_region rfl ?_
  simp only [sX, simprocAttr, -List.reduceReplicate]
  refine rF c25_rrlrbrerert c25_rrlrbrerere rfl rfl ?_
  refine rS c25_rrlrbrererel c25_rrlrbrererer rfl ?_
  refine run_region rfl ?_
  simp only [sX, simprocAttr, -List.reduceReplicate]
  refine rF c25_rrlrbrererert c25_rrlrbrererere rfl rfl ?_
  refine rS c25_rrlrbrerererel c25_rrlrbrerererer rfl ?_
  refine run_region rfl ?_
  simp only [sX, simprocAttr, -List.reduceReplicate]
  refine rF c25_rrlrbrerererert c25_rrlrbrerererere rfl rfl ?_
  refine rS c25_rrlrbrererererel c25_rrlrbrererererer rfl ?_
  refine run_region rfl ?_
  simp only [sX, simprocAttr, -List.reduceReplicate]
  refine rF c25_rrlrbrererererert c25_rrlrbrererererere rfl rfl ?_
  refine rS c25_rrlrbrerererererel c25_rrlrbrerererererer rfl ?_
  refine run_region rfl ?_
  simp only [sX, simprocAttr, -List.reduceReplicate]
  refine rF c25_rrlrbrerererererert c25_rrlrbrerererererere rfl rfl ?_
  refine rS c25_rrlrbrererererererel c25_rrlrbrererererererer rfl ?_
  refine run_region rfl ?_
  simp only [sX, simprocAttr, -List.reduceReplicate]
  refine rT c25_rrlrbrererererererert c25_rrlrbrererererererere rfl rfl ?_
  refine rS c25_rrlrbrererererererertl c25_rrlrbrererererererertr rfl ?_
  refine run_region rfl ?_
  simp only [sX, simprocAttr, -List.reduceReplicate, ho, hbl]
  refine call_of (hs _ _ S p1 A.kids.length fb m (hA0 _) (hp0 _) hm) ?_
  rintro v H1 ⟨b1, rfl, hp1, hg1⟩
  simp only [sX, simprocAttr, -List.reduceReplicate]
  refine run_ret rfl ?_
  (simp only [sP]; refine ⟨_, (by rw [resultsA_eq Try.results25]; simp only [sR, List.mapM_cons, List.mapM_nil]; rfl), ?_⟩)
  exact ⟨b1, rfl, hp1, (Gr.snoc _ _).trans hg1⟩
theorem step_plus {A : Tr} {x : List UInt8} (hx : x.length ≤ 1000) (hA : StepP A x) (hB : StarP A x) : StepP (.node 5 S4.z [A]) x := by
  intro l hl
  obtain ⟨l1, hl1, hs⟩ := hA l hl
  obtain ⟨l2, hl2, hs2⟩ := hB l1 (by omega)
  refine ⟨l2, by omega, ?_⟩
  intro lim H S p n fb m hI hp hm
  simp only [Tr.k, Tr.s] at hI ⊢
  obtain ⟨rfl, bl, wr, p1, rfl, _, ho, hA⟩ := hI.inv1
  have hbl := getO_lt ho
  have hmk := boolC_mk H x m hx (by omega)
  have hp0 : ∀ y, isPl (H ++ [y]) fb l := fun y => hp.gr (Gr.snoc H y)
  have hA0 : ∀ y, IsRe (H ++ [y]) S A (reC A.k A.s p1 A.kids.length) := fun y => hA.gr (Gr.snoc H y)
  have hbl' : bl < H.length + 1 := by omega
  unfold reC at ho
  unfold reV at hs hs2 ⊢
  (refine call_intro fun25 name25 body25 ?_; simp only [Try.ntmps25, List.map_cons, List.map_nil, List.length_cons, List.length_nil, Nat.zero_add, Nat.reduceAdd, Nat.reduceSub, List.replicate_succ, List.replicate_zero, List.cons_append, List.nil_append])
  refine rS c25_l c25_r rfl ?_
  refine run_region rfl ?_
  simp only [sX, simprocAttr, -List.reduceReplicate, pur25]
  refine rS c25_rl c25_rr rfl ?_
  refine run_region rfl ?_
  simp only [sX, simprocAttr, -List.reduceReplicate, exe_makeSlice, hmk]
  refine rS c25_rrl c25_rrr rfl ?_
  refine rS c25_rrll c25_rrlr rfl ?_
  refine run_region rfl ?_
  simp only [sX, simprocAttr, -List.reduceReplicate]
  refine run_block (b := c25_rrlrb) rfl ?_
  refine rS c25_rrlrbl c25_rrlrbr rfl ?_
  refine run_region rfl ?_
  simp only [sX, simprocAttr, -List.reduceReplicate]
  refine rF c25_rrlrbrt c25_rrlrbre rfl rfl ?_
  refine rS c25_rrlrbrel c25_rrlrbrer rfl ?_
  refine run_region rfl ?_
  simp only [sX, simprocAttr, -List.reduceReplicate]
  refine rF c25_rrlrbrert c25_rrlrbrere rfl rfl ?_
  refine rS c25_rrlrbrerel c25_rrlrbrerer rfl ?_
  refine run_region rfl ?_
  simp only [sX, simprocAttr, -List.reduceReplicate]
  refine rF c25_rrlrbrerert c25_rrlrbrerere rfl rfl ?_
  refine rS c25_rrlrbrererel c25_rrlrbrererer rfl ?_
  refine run_region rfl ?_
  simp only [sX, simprocAttr, -List.reduceReplicate]
  refine rF c25_rrlrbrererert c25_rrlrbrererere rfl rfl ?_
  refine rS c25_rrlrbrerererel c25_rrlrbrerererer rfl ?_
  refine run_region rfl ?_
  simp only [sX, simprocAttr, -List.reduceReplicate]
  refine rF c25_rrlrbrerererert c25_rrlrbrerererere rfl rfl ?_
  refine rS c25_rrlrbrererererel c25_rrlrbrererererer rfl ?_
  refine run_region rfl ?_
  simp only [sX, simprocAttr, -List.reduceReplicate]
  refine rF c25_rrlrbrererererert c25_rrlrbrererererere rfl rfl ?_
  refine rS c25_rrlrbrerererererel c25_rrlrbrerererererer rfl ?_
  refine run_region rfl ?_
  simp only [sX, simprocAttr, -List.reduceReplicate]
  refine rF c25_rrlrbrerererererert c25_rrlrbrerererererere rfl rfl ?_
  refine rS c25_rrlrbrererererererel c25_rrlrbrererererererer rfl ?_
  refine run_region rfl ?_
  simp only [sX, simprocAttr, -List.reduceReplicate]
  refine rF c25_rrlrbrererererererert c25_rrlrbrererererererere rfl rfl ?_
  refine rS c25_rrlrbrerererererererel c25_rrlrbrerererererererer rfl ?_
  refine run_region rfl ?_
  simp only [sX, simprocAttr, -List.reduceReplicate]
  refine rT c25_rrlrbrerererererererert c25_rrlrbrerererererererere rfl rfl ?_
  refine rS c25_rrlrbrerererererererertl c25_rrlrbrerererererererertr rfl ?_
  refine run_draw rfl c25_rrlrbrerererererererertl_ok c25_rrlrbrerererererererertl_dr ?_
  simp only [sX, simprocAttr, -List.reduceReplicate, ho, hbl, hbl']
  refine call_of (hs _ _ S p1 A.kids.length fb m (hA0 _) (hp0 _) hm) ?_
  rintro v H1 ⟨b1, rfl, hp1, hg1⟩
  simp only [sX, simprocAttr, -List.reduceReplicate]
  refine call_of (hs2 _ _ S p1 A.kids.length b1 m ((hA0 _).gr hg1) hp1 (by omega)) ?_
  rintro v H2 ⟨b2, rfl, hp2, hg2⟩
  simp only [sX, simprocAttr, -List.reduceReplicate]
  refine run_ret rfl ?_
  (simp only [sP]; refine ⟨_, (by rw [resultsA_eq Try.results25]; simp only [sR, List.mapM_cons, List.mapM_nil]; rfl), ?_⟩)
  exact ⟨b2, rfl, hp2, (Gr.snoc _ _).trans (hg1.trans hg2)⟩
theorem step_cat {A B : Tr} {x : List UInt8} (hx : x.length ≤ 1000) (hA' : StepP A x) (hB' : StepP B x) : StepP (.node 2 S4.z [A, B]) x := by
  intro l hl
  obtain ⟨l1, hl1, hs⟩ := hA' l hl
  obtain ⟨l2, hl2, hs2⟩ := hB' l1 (by omega)
  refine ⟨l2, by omega, ?_⟩
  intro lim H S p n fb m hI hp hm
  simp only [Tr.k, Tr.s] at hI ⊢
  obtain ⟨rfl, bl, wr, p1, p2, rfl, _, ho, hA, hB⟩ := hI.inv2
  have hbl := getO_lt ho
  have hmk := boolC_mk H x m hx (by omega)
  have hp0 : ∀ y, isPl (H ++ [y]) fb l := fun y => hp.gr (Gr.snoc H y)
  have hA0 : ∀ y, IsRe (H ++ [y]) S A (reC A.k A.s p1 A.kids.length) := fun y => hA.gr (Gr.snoc H y)
  have hB0 : ∀ y, IsRe (H ++ [y]) S B (reC B.k B.s p2 B.kids.length) := fun y => hB.gr (Gr.snoc H y)
  have hbl' : bl < H.length + 1 := by omega
  unfold reC at ho
  simp only [List.cons_append, List.nil_append] at ho
  unfold reV at hs hs2 ⊢
  (refine call_intro fun25 name25 body25 ?_; simp only [Try.ntmps25, List.map_cons, List.map_nil, List.length_cons, List.length_nil, Nat.zero_add, Nat.reduceAdd, Nat.reduceSub, List.replicate_succ, List.replicate_zero, List.cons_append, List.nil_append])
  refine rS c25_l c25_r rfl ?_
  refine run_region rfl ?_
  simp only [sX, simprocAttr, -List.reduceReplicate, pur25]
  refine rS c25_rl c25_rr rfl ?_
  refine run_region rfl ?_
  simp only [sX, simprocAttr, -List.reduceReplicate, exe_makeSlice, hmk]
  refine rS c25_rrl c25_rrr rfl ?_
  refine rS c25_rrll c25_rrlr rfl ?_
  refine run_region rfl ?_
  simp only [sX, simprocAttr, -List.reduceReplicate]
  refine run_block (b := c25_rrlrb) rfl ?_
  refine rS c25_rrlrbl c25_rrlrbr rfl ?_
  refine run_region rfl ?_
  simp only [sX, simprocAttr, -List.reduceReplicate]
  refine rF c25_rrlrbrt c25_rrlrbre rfl rfl ?_
  refine rS c25_rrlrbrel c25_rrlrbrer rfl ?_
  refine run_region rfl ?_
  simp only [sX, simprocAttr, -List.reduceReplicate]
  refine rF c25_rrlrbrert c25_rrlrbrere rfl rfl ?_
  refine rS c25_rrlrbrerel c25_rrlrbrerer rfl ?_
  refine run_region rfl ?_
  simp only [sX, simprocAttr, -List.reduceReplicate]
  refine rF c25_rrlrbrerert c25_rrlrbrerere rfl rfl ?_
  refine rS c25_rrlrbrererel c25_rrlrbrererer rfl ?_
  refine run_region rfl ?_
  simp only [sX, simprocAttr, -List.reduceReplicate]
  refine rF c25_rrlrbrererert c25_rrlrbrererere rfl rfl ?_
  refine rS c25_rrlrbrerererel c25_rrlrbrerererer rfl ?_
  refine run_region rfl ?_
  simp only [sX, simprocAttr, -List.reduceReplicate]
  refine rT c25_rrlrbrerererert c25_rrlrbrerererere rfl rfl ?_
  refine rS c25_rrlrbrerererertl c25_rrlrbrerererertr rfl ?_
  refine run_draw rfl c25_rrlrbrerererertl_ok c25_rrlrbrerererertl_dr ?_
  simp only [sX, simprocAttr, -List.reduceReplicate, ho, hbl, hbl']
  refine call_of (hs _ _ S p1 A.kids.length fb m (hA0 _) (hp0 _) hm) ?_
  rintro v H1 ⟨b1, rfl, hp1, hg1⟩
  simp only [sX, simprocAttr, -List.reduceReplicate]
  refine call_of (hs2 _ _ S p2 B.kids.length b1 m ((hB0 _).gr hg1) hp1 (by omega)) ?_
  rintro v H2 ⟨b2, rfl, hp2, hg2⟩
  simp only [sX, simprocAttr, -List.reduceReplicate]
  refine run_ret rfl ?_
  (simp only [sP]; refine ⟨_, (by rw [resultsA_eq Try.results25]; simp only [sR, List.mapM_cons, List.mapM_nil]; rfl), ?_⟩)
  exact ⟨b2, rfl, hp2, (Gr.snoc _ _).trans (hg1.trans hg2)⟩
theorem step_alt {A B : Tr} {x : List UInt8} (hx : x.length ≤ 1000) (hA' : StepP A x) (hB' : StepP B x) : StepP (.node 3 S4.z [A, B]) x := by
  intro l hl
  obtain ⟨l1, hl1, hs⟩ := hA' l hl
  obtain ⟨l2, hl2, hs2⟩ := hB' l hl
  refine ⟨orL l1 l2, by rw [orL_len (by omega), hl1], ?_⟩
  intro lim H S p n fb m hI hp hm
  simp only [Tr.k, Tr.s] at hI ⊢
  obtain ⟨rfl, bl, wr, p1, p2, rfl, _, ho, hA, hB⟩ := hI.inv2
  have hbl := getO_lt ho
  have hmk := boolC_mk H x m hx (by omega)
  have hp0 : ∀ y, isPl (H ++ [y]) fb l := fun y => hp.gr (Gr.snoc H y)
  have hA0 : ∀ y, IsRe (H ++ [y]) S A (reC A.k A.s p1 A.kids.length) := fun y => hA.gr (Gr.snoc H y)
  have hB0 : ∀ y, IsRe (H ++ [y]) S B (reC B.k B.s p2 B.kids.length) := fun y => hB.gr (Gr.snoc H y)
  have hbl' : bl < H.length + 1 := by omega
  unfold reC at ho
  simp only [List.cons_append, List.nil_append] at ho
  unfold reV at hs hs2 ⊢
  (refine call_intro fun25 name25 body25 ?_; simp only [Try.ntmps25, List.map_cons, List.map_nil, List.length_cons, List.length_nil, Nat.zero_add, Nat.reduceAdd, Nat.reduceSub, List.replicate_succ, List.replicate_zero, List.cons_append, List.nil_append])
  refine rS c25_l c25_r rfl ?_
  refine run_region rfl ?_
  simp only [sX, simprocAttr, -List.reduceReplicate, pur25]
  refine rS c25_rl c25_rr rfl ?_
  refine run_region rfl ?_
  simp only [sX, simprocAttr, -List.reduceReplicate, exe_makeSlice, hmk]
  refine rS c25_rrl c25_rrr rfl ?_
  refine rS c25_rrll c25_rrlr rfl ?_
  refine run_region rfl ?_
  simp only [sX, simprocAttr, -List.reduceReplicate]
  refine run_block (b := c25_rrlrb) rfl ?_
  refine rS c25_rrlrbl c25_rrlrbr rfl ?_
  refine run_region rfl ?_
  simp only [sX, simprocAttr, -List.reduceReplicate]
  refine rF c25_rrlrbrt c25_rrlrbre rfl rfl ?_
  refine rS c25_rrlrbrel c25_rrlrbrer rfl ?_
  refine run_region rfl ?_
  simp only [sX, simprocAttr, -List.reduceReplicate]
  refine rF c25_rrlrbrert c25_rrlrbrere rfl rfl ?_
  refine rS c25_rrlrbrerel c25_rrlrbrerer rfl ?_
  refine run_region rfl ?_
  simp only [sX, simprocAttr, -List.reduceReplicate]
  refine rF c25_rrlrbrerert c25_rrlrbrerere rfl rfl ?_
  refine rS c25_rrlrbrererel c25_rrlrbrererer rfl ?_
  refine run_region rfl ?_
  simp only [sX, simprocAttr, -List.reduceReplicate]
  refine rF c25_rrlrbrererert c25_rrlrbrererere rfl rfl ?_
  refine rS c25_rrlrbrerererel c25_rrlrbrerererer rfl ?_
  refine run_region rfl ?_
  simp only [sX, simprocAttr, -List.reduceReplicate]
  refine rF c25_rrlrbrerererert c25_rrlrbrerererere rfl rfl ?_
  refine rS c25_rrlrbrererererel c25_rrlrbrererererer rfl ?_
  refine run_region rfl ?_
  simp only [sX, simprocAttr, -List.reduceReplicate]
  refine rT c25_rrlrbrererererert c25_rrlrbrererererere rfl rfl ?_
  refine rS c25_rrlrbrererererertl c25_rrlrbrererererertr rfl ?_
  refine run_draw rfl c25_rrlrbrererererertl_ok c25_rrlrbrererererertl_dr ?_
  simp only [sX, simprocAttr, -List.reduceReplicate, ho, hbl, hbl']
  refine call_of (hs _ _ S p1 A.kids.length fb m (hA0 _) (hp0 _) hm) ?_
  rintro v H1 ⟨b1, rfl, hp1, hg1⟩
  have ho1 := (((Gr.snoc _ _).trans hg1).2 bl hbl).trans ho
  simp only [sX, simprocAttr, -List.reduceReplicate, ho1, hbl']
  refine call_of (hs2 _ _ S p2 B.kids.length fb m ((hB0 _).gr hg1) ((hp0 _).gr hg1) hm) ?_
  rintro v H2 ⟨b2, rfl, hp2, hg2⟩
  simp only [sX, simprocAttr, -List.reduceReplicate]
  refine call_of (either_ok _ _ l1 l2 b1 b2 m (by omega) (by omega) (hp1.gr hg2) hp2 (by omega)) ?_
  rintro v H3 ⟨b3, rfl, hp3, hg3⟩
  simp only [sX, simprocAttr, -List.reduceReplicate]
  refine run_ret rfl ?_
  (simp only [sP]; refine ⟨_, (by rw [resultsA_eq Try.results25]; simp only [sR, List.mapM_cons, List.mapM_nil]; rfl), ?_⟩)
  exact ⟨b3, rfl, hp3, (Gr.snoc _ _).trans (hg1.trans (hg2.trans hg3))⟩

theorem step_ok {T : Tr} (h : Ok T) (x : List UInt8) (hx : x.length ≤ 1000) : StepP T x ∧ StripP T x := by
  induction h with
  | empty => exact ⟨step_empty x hx, strip_end hx rfl rfl rfl (step_empty x hx)⟩
  | set s => exact ⟨step_set s x hx, strip_end hx rfl rfl rfl (step_set s x hx)⟩
  | cat _ _ ia ib => exact ⟨step_cat hx ia.1 ib.1, strip_end hx rfl rfl rfl (step_cat hx ia.1 ib.1)⟩
  | alt _ _ ia ib => exact ⟨step_alt hx ia.1 ib.1, strip_end hx rfl rfl rfl (step_alt hx ia.1 ib.1)⟩
  | star _ ia => exact ⟨step_star hx (star_of ia.2), strip_1 (.inl rfl) ia.2⟩
  | plus _ ia => exact ⟨step_plus hx ia.1 (star_of ia.2), strip_1 (.inr (.inl rfl)) ia.2⟩
  | opt _ ia => exact ⟨step_opt hx ia.1, strip_1 (.inr (.inr rfl)) ia.2⟩
  | first => exact ⟨step_first x hx, strip_end hx rfl rfl rfl (step_first x hx)⟩
  | last => exact ⟨step_last x hx, strip_end hx rfl rfl rfl (step_last x hx)⟩

end Go.Proofs.Ytmgofjgfmcmceaa
end
