/- All rules of the walks, in one. Trees as plain data, and as cells of memory. Facts of numbers and of texts as lists. What a step of the parser leaves: trees as pieces, the reader further on, all else as it was. Rows of pieces. Alternations. A piece: an atom with its signs. A count in braces: {0}. -/
import Derived.Test.YtmgofjgfmcmceaaF5
section
namespace Go.Proofs.Ytmgofjgfmcmceaa
open Go.RowKit
set_option maxRecDepth 4000
theorem sX0 : type_of% ((And.intro @wantG.eq_1 (And.intro @wantG.eq_2 (And.intro @wantG.eq_3 (And.intro @bne.eq_1.{0} (And.intro @if_true.{1} (And.intro @if_false.{1} (And.intro @ Array.isEmpty_empty.{0} (And.intro Nat.zero_mul (And.intro Nat.one_mul (And.intro wB (And.intro fB (And.intro bB (And.intro lB (And.intro @List.contains_cons.{0} (And.intro @List.contains_nil.{0} (And.intro @List.size_toArray.{0} (And.intro @List.isEmpty_nil.{0} (And.intro @List.length_set.{0} (And.intro @List.set_set.{0} (And.intro @List.getElem?_toArray.{0} (And.intro @List.mapM_cons.{0,0,0} (And.intro @List.mapM_nil.{0,0,0} (And.intro @Option.bind_eq_bind.{0} (And.intro @Option.pure_def.{0} @beq_self_eq_true.{0}))))))))))))))))))))))))) := (And.intro @wantG.eq_1 (And.intro @wantG.eq_2 (And.intro @wantG.eq_3 (And.intro @bne.eq_1.{0} (And.intro @if_true.{1} (And.intro @if_false.{1} (And.intro @ Array.isEmpty_empty.{0} (And.intro Nat.zero_mul (And.intro Nat.one_mul (And.intro wB (And.intro fB (And.intro bB (And.intro lB (And.intro @List.contains_cons.{0} (And.intro @List.contains_nil.{0} (And.intro @List.size_toArray.{0} (And.intro @List.isEmpty_nil.{0} (And.intro @List.length_set.{0} (And.intro @List.set_set.{0} (And.intro @List.getElem?_toArray.{0} (And.intro @List.mapM_cons.{0,0,0} (And.intro @List.mapM_nil.{0,0,0} (And.intro @Option.bind_eq_bind.{0} (And.intro @Option.pure_def.{0} @beq_self_eq_true.{0}))))))))))))))))))))))))
theorem sX1 : type_of% ((And.intro @decide_true (And.intro @decide_false (And.intro @decide_eq_true_eq (And.intro @Bool.false_eq_true (And.intro @wrap_lit (And.intro @Int.cast_ofNat_Int (And.intro @Int.natCast_one (And.intro @Int.natCast_zero (And.intro @Int.zero_le_ofNat (And.intro @Int.neg_ofNat_le_ofNat (And.intro @and_self (And.intro @Int.sub_self (And.intro @Int.toNat_zero (And.intro @Int.toNat_one (And.intro @gitsG_cons (And.intro @gitsG_nil (And.intro @gitsGD_cons (And.intro @gitsGD_nil (And.intro @exe_append (And.intro @getO_append_new (And.intro @getO_set_self (And.intro @getO_snoc (And.intro @len_snoc (And.intro @Bool.true_beq @Bool.false_beq))))))))))))))))))))))))) := (And.intro @decide_true (And.intro @decide_false (And.intro @decide_eq_true_eq (And.intro @Bool.false_eq_true (And.intro @wrap_lit (And.intro @Int.cast_ofNat_Int (And.intro @Int.natCast_one (And.intro @Int.natCast_zero (And.intro @Int.zero_le_ofNat (And.intro @Int.neg_ofNat_le_ofNat (And.intro @and_self (And.intro @Int.sub_self (And.intro @Int.toNat_zero (And.intro @Int.toNat_one (And.intro @gitsG_cons (And.intro @gitsG_nil (And.intro @gitsGD_cons (And.intro @gitsGD_nil (And.intro @exe_append (And.intro @getO_append_new (And.intro @getO_set_self (And.intro @getO_snoc (And.intro @len_snoc (And.intro @Bool.true_beq @Bool.false_beq))))))))))))))))))))))))
theorem sX2 : type_of% ((And.intro @u8_lit (And.intro @cvI.eq_1 (And.intro @cvI.eq_2 (And.intro @ldT.eq_1 (And.intro @ldT.eq_2 (And.intro @ldT.eq_3 (And.intro @stT.eq_1 (And.intro @stT.eq_2 (And.intro @stT.eq_3 (And.intro @idxA.eq_def (And.intro @idxR.eq_def (And.intro @tupR.eq_1 (And.intro @tupR.eq_2 (And.intro @lenR.eq_1 (And.intro @lenR.eq_2 (And.intro @lenR.eq_3 (And.intro @pickR.eq_1 (And.intro @pickR.eq_2 (And.intro @fldR.eq_1 (And.intro @fldR.eq_2 (And.intro @newVar.eq_1 (And.intro @newVar.eq_2 (And.intro @newSlice.eq_1 (And.intro @placeOf.eq_1 @placeOf.eq_2))))))))))))))))))))))))) := (And.intro @u8_lit (And.intro @cvI.eq_1 (And.intro @cvI.eq_2 (And.intro @ldT.eq_1 (And.intro @ldT.eq_2 (And.intro @ldT.eq_3 (And.intro @stT.eq_1 (And.intro @stT.eq_2 (And.intro @stT.eq_3 (And.intro @idxA.eq_def (And.intro @idxR.eq_def (And.intro @tupR.eq_1 (And.intro @tupR.eq_2 (And.intro @lenR.eq_1 (And.intro @lenR.eq_2 (And.intro @lenR.eq_3 (And.intro @pickR.eq_1 (And.intro @pickR.eq_2 (And.intro @fldR.eq_1 (And.intro @fldR.eq_2 (And.intro @newVar.eq_1 (And.intro @newVar.eq_2 (And.intro @newSlice.eq_1 (And.intro @placeOf.eq_1 @placeOf.eq_2))))))))))))))))))))))))
theorem sX3 : type_of% ((And.intro @placeOf.eq_3 (And.intro @Pl.tv.eq_1 (And.intro @Pl.tv.eq_2 (And.intro @Pl.add.eq_1 (And.intro @Pl.add.eq_2 (And.intro @ldv.eq_1 (And.intro @stv.eq_1 (And.intro @setCells.eq_1 (And.intro @setCells.eq_2 (And.intro @Value.cells.eq_1 (And.intro @Value.cells.eq_2 (And.intro @isCell.eq_1 (And.intro @isCell.eq_2 (And.intro @isCell.eq_3 (And.intro @isCell.eq_4 (And.intro @isCell.eq_5 (And.intro @isCell.eq_6 (And.intro @isCell.eq_7 (And.intro @isCell.eq_8 (And.intro @isCell.eq_9 (And.intro @isCell.eq_10 (And.intro @isCell.eq_11 (And.intro @noRef.eq_1 (And.intro @noRef.eq_2 @noRef.eq_3))))))))))))))))))))))))) := (And.intro @placeOf.eq_3 (And.intro @Pl.tv.eq_1 (And.intro @Pl.tv.eq_2 (And.intro @Pl.add.eq_1 (And.intro @Pl.add.eq_2 (And.intro @ldv.eq_1 (And.intro @stv.eq_1 (And.intro @setCells.eq_1 (And.intro @setCells.eq_2 (And.intro @Value.cells.eq_1 (And.intro @Value.cells.eq_2 (And.intro @isCell.eq_1 (And.intro @isCell.eq_2 (And.intro @isCell.eq_3 (And.intro @isCell.eq_4 (And.intro @isCell.eq_5 (And.intro @isCell.eq_6 (And.intro @isCell.eq_7 (And.intro @isCell.eq_8 (And.intro @isCell.eq_9 (And.intro @isCell.eq_10 (And.intro @isCell.eq_11 (And.intro @noRef.eq_1 (And.intro @noRef.eq_2 @noRef.eq_3))))))))))))))))))))))))
theorem sX4 : type_of% ((And.intro @noRef.eq_4 (And.intro @noRef.eq_5 (And.intro @noRef.eq_6 (And.intro @noRef.eq_7 (And.intro @noRef.eq_8 (And.intro @noRef.eq_9 (And.intro @noRef.eq_10 (And.intro @evv.eq_1 (And.intro @ev.eq_1 (And.intro @ev.eq_2 (And.intro @ev.eq_3 (And.intro @ev.eq_4 (And.intro @undef.eq_1 (And.intro @inB.eq_1 (And.intro @intOf?.eq_1 (And.intro @intOf?.eq_2 (And.intro @idxV.eq_1 (And.intro @idxV.eq_2 (And.intro @idxV.eq_3 (And.intro @plOk.eq_1 (And.intro @plOk.eq_2 (And.intro @puOk.eq_1 (And.intro @puOk.eq_2 (And.intro @putOk.eq_1 @putOk.eq_2))))))))))))))))))))))))) := (And.intro @noRef.eq_4 (And.intro @noRef.eq_5 (And.intro @noRef.eq_6 (And.intro @noRef.eq_7 (And.intro @noRef.eq_8 (And.intro @noRef.eq_9 (And.intro @noRef.eq_10 (And.intro @evv.eq_1 (And.intro @ev.eq_1 (And.intro @ev.eq_2 (And.intro @ev.eq_3 (And.intro @ev.eq_4 (And.intro @undef.eq_1 (And.intro @inB.eq_1 (And.intro @intOf?.eq_1 (And.intro @intOf?.eq_2 (And.intro @idxV.eq_1 (And.intro @idxV.eq_2 (And.intro @idxV.eq_3 (And.intro @plOk.eq_1 (And.intro @plOk.eq_2 (And.intro @puOk.eq_1 (And.intro @puOk.eq_2 (And.intro @putOk.eq_1 @putOk.eq_2))))))))))))))))))))))))
theorem sX5 : type_of% ((And.intro @lptrIn.eq_1 (And.intro @lptrIn.eq_2 (And.intro @isBoxT.eq_1 (And.intro @isBoxT.eq_2 (And.intro @appR.eq_1 (And.intro @appR.eq_2 @appR.eq_3))))))) := (And.intro @lptrIn.eq_1 (And.intro @lptrIn.eq_2 (And.intro @isBoxT.eq_1 (And.intro @isBoxT.eq_2 (And.intro @appR.eq_1 (And.intro @appR.eq_2 @appR.eq_3))))))
theorem sX : type_of% ((And.intro sX0 (And.intro sX1 (And.intro sX2 (And.intro sX3 (And.intro sX4 sX5)))))) := (And.intro sX0 (And.intro sX1 (And.intro sX2 (And.intro sX3 (And.intro sX4 sX5)))))
theorem sC : type_of% ((And.intro @clrF_cons (And.intro @clrF_nil (And.intro @List.contains_cons.{0} (And.intro @List.contains_nil.{0} (And.intro @Bool.or_false (And.intro @Bool.false_or (And.intro @Bool.or_self (And.intro @Bool.true_or (And.intro @Bool.or_true (And.intro @beq_self_eq_true.{0} (And.intro @cond_true.{1} @cond_false.{1})))))))))))) := (And.intro @clrF_cons (And.intro @clrF_nil (And.intro @List.contains_cons.{0} (And.intro @List.contains_nil.{0} (And.intro @Bool.or_false (And.intro @Bool.false_or (And.intro @Bool.or_self (And.intro @Bool.true_or (And.intro @Bool.or_true (And.intro @beq_self_eq_true.{0} (And.intro @cond_true.{1} @cond_false.{1})))))))))))
theorem sP : type_of% ((And.intro @POP_nil_ret (And.intro @POP_code_ret (And.intro @POP_blk_ret (And.intro @POP_lp_ret (And.intro @POP_code (And.intro @POP_lp (And.intro @POP_blk (And.intro @POP_code_exit (And.intro @POP_lp_exit (And.intro @POP_blk_exit @POP_nil))))))))))) := (And.intro @POP_nil_ret (And.intro @POP_code_ret (And.intro @POP_blk_ret (And.intro @POP_lp_ret (And.intro @POP_code (And.intro @POP_lp (And.intro @POP_blk (And.intro @POP_code_exit (And.intro @POP_lp_exit (And.intro @POP_blk_exit @POP_nil))))))))))
theorem sR : type_of% ((And.intro @resOf.eq_1 (And.intro @resOf.eq_2 (And.intro @Option.bind_some.{0,0} (And.intro @Option.pure_def.{0} (And.intro @Option.bind_eq_bind.{0} (And.intro @List.getD_cons_zero.{0} (And.intro @List.getD_cons_succ.{0} (And.intro @ldv.eq_1 (And.intro @List.length_cons.{0} (And.intro @List.length_nil.{0} (And.intro @List.getElem?_cons_zero.{0} (And.intro @List.getElem?_cons_succ.{0} (And.intro @List.drop_succ_cons.{0} (And.intro @List.drop_zero.{0} (And.intro @List.take_succ_cons.{0} (And.intro @List.take_zero.{0} (And.intro Nat.zero_add (And.intro Nat.add_zero (And.intro Nat.le_refl (And.intro @List.all_cons.{0} (And.intro @List.all_nil.{0} (And.intro @Bool.and_self fB))))))))))))))))))))))) := (And.intro @resOf.eq_1 (And.intro @resOf.eq_2 (And.intro @Option.bind_some.{0,0} (And.intro @Option.pure_def.{0} (And.intro @Option.bind_eq_bind.{0} (And.intro @List.getD_cons_zero.{0} (And.intro @List.getD_cons_succ.{0} (And.intro @ldv.eq_1 (And.intro @List.length_cons.{0} (And.intro @List.length_nil.{0} (And.intro @List.getElem?_cons_zero.{0} (And.intro @List.getElem?_cons_succ.{0} (And.intro @List.drop_succ_cons.{0} (And.intro @List.drop_zero.{0} (And.intro @List.take_succ_cons.{0} (And.intro @List.take_zero.{0} (And.intro Nat.zero_add (And.intro Nat.add_zero (And.intro Nat.le_refl (And.intro @List.all_cons.{0} (And.intro @List.all_nil.{0} (And.intro @Bool.and_self fB))))))))))))))))))))))
end Go.Proofs.Ytmgofjgfmcmceaa
end
section
namespace Go.Proofs.Ytmgofjgfmcmceaa
open Go.RowKit
set_option maxRecDepth 4000

theorem or_eq (lim : Nat) (H : Hp) (a b c d e f g h : Int) : execCall X 60 lim 56 [.agg #[.int .u64 a, .int .u64 b, .int .u64 c, .int .u64 d], .agg #[.int .u64 e, .int .u64 f, .int .u64 g, .int .u64 h]] H =
    some (.agg #[.int .u64 (ibit .or .u64 a e), .int .u64 (ibit .or .u64 b f), .int .u64 (ibit .or .u64 c g), .int .u64 (ibit .or .u64 d h)], H) := by kernel_rfl

theorem leaf_eq (lim : Nat) (H : Hp) (k a b c d : Int) : execCall X 60 lim 46 [.int .i64 k, .agg #[.int .u64 a, .int .u64 b, .int .u64 c, .int .u64 d]] H =
    some (.agg #[.int .i64 k, .int .u64 a, .int .u64 b, .int .u64 c, .int .u64 d, .slice none 0 0, .int .i64 1, .int .i64 1, .bool false], H) := by kernel_rfl

/-- A piece that is not too great. -/
theorem fits_ok (lim : Nat) (H : Hp) (k a b c d : Int) (p : Option Addr) (n m : Nat) (dp lv : Int) (h1 : dp ≤ 40) (h2 : lv ≤ 400) :
    CallEx X lim 45 [.agg #[.int .i64 k, .int .u64 a, .int .u64 b, .int .u64 c, .int .u64 d, .slice p n m, .int .i64 dp, .int .i64 lv, .bool false]] H fun v H1 =>
      v = .agg #[.int .i64 k, .int .u64 a, .int .u64 b, .int .u64 c, .int .u64 d, .slice p n m, .int .i64 dp, .int .i64 lv, .bool false] ∧ H1 = H := by
  have e1 : decide (40 < dp) = false := by simpa using h1
  have e2 : decide (400 < lv) = false := by simpa using h2
  (refine call_intro fun45 name45 body45 ?_; simp only [Try.ntmps45, List.map_cons, List.map_nil, List.length_cons, List.length_nil, Nat.zero_add, Nat.reduceSub, List.replicate_succ, List.replicate_zero, List.cons_append, List.nil_append])
  refine rS c45_l c45_r rfl ?_
  refine run_region rfl ?_
  simp only [sX, simprocAttr, -List.reduceReplicate]
  refine rS c45_rl c45_rr rfl ?_
  refine rS c45_rll c45_rlr rfl ?_
  refine run_region rfl ?_
  simp only [sX, simprocAttr, -List.reduceReplicate, e1, e2]
  refine run_cond (a := c45_rlrt) (b := c45_rlre) rfl rfl (fun hc => ?_) (fun hc => ?_)
  · cases hc
  · refine run_skip rfl ?_
    simp only [sP]
    refine rS c45_rrl c45_rrr rfl ?_
    refine run_region rfl ?_
    simp only [sX, simprocAttr, -List.reduceReplicate]
    refine run_ret rfl ?_
    (simp only [sP]; refine ⟨_, (by rw [resultsA_eq Try.results45]; simp only [sR, List.mapM_cons, List.mapM_nil, if_true, Nat.reduceAdd]; rfl), ?_⟩)
    exact ⟨rfl, trivial⟩

/-- A sign behind a piece. -/
theorem one_ok (lim : Nat) (H : Hp) (kd k a b c d : Int) (p : Option Addr) (n m : Nat) (dp lv : Int) (h0 : 0 ≤ dp) (h1 : dp + 1 ≤ 40) (h2 : lv ≤ 400) :
    CallEx X lim 43 [.int .i64 kd, .agg #[.int .i64 k, .int .u64 a, .int .u64 b, .int .u64 c, .int .u64 d, .slice p n m, .int .i64 dp, .int .i64 lv, .bool false]] H fun v H1 =>
      v = .agg #[.int .i64 kd, .int .u64 0, .int .u64 0, .int .u64 0, .int .u64 0, .slice (some ⟨H.length, 0, none⟩) 1 1, .int .i64 (dp + 1), .int .i64 lv, .bool false] ∧ H1 = H ++ [some ⟨true, 6, [.int .i64 k, .int .u64 a, .int .u64 b, .int .u64 c, .int .u64 d, .slice p n m]⟩] := by
  (refine call_intro fun43 name43 body43 ?_; simp only [Try.ntmps43, List.map_cons, List.map_nil, List.length_cons, List.length_nil, Nat.zero_add, Nat.reduceAdd, Nat.reduceSub, List.replicate_succ, List.replicate_zero, List.cons_append, List.nil_append])
  refine rS c43_l c43_r rfl ?_
  refine run_region rfl ?_
  simp only [sX, simprocAttr, -List.reduceReplicate]
  refine rS c43_rl c43_rr rfl ?_
  refine run_region rfl ?_
  simp only [sX, simprocAttr, -List.reduceReplicate]
  rw [IntWalk.i64_in _ (by omega)]
  refine call_of (fits_ok _ _ kd 0 0 0 0 _ 1 1 (dp + 1) lv h1 h2) ?_
  rintro v H1 ⟨rfl, rfl⟩
  simp only [sX, simprocAttr, -List.reduceReplicate]
  refine run_ret rfl ?_
  (simp only [sP]; refine ⟨_, (by rw [resultsA_eq Try.results43]; simp only [sR, List.mapM_cons, List.mapM_nil, if_true, Nat.reduceAdd]; rfl), ?_⟩)
  exact ⟨rfl, trivial⟩
end Go.Proofs.Ytmgofjgfmcmceaa
end
section
namespace Go.Proofs.Ytmgofjgfmcmceaa
open Go.RowKit
set_option maxRecDepth 4000

/-- How many kids a kind has. -/
def kidsN (k : Int) : Int := if k = 0 ∨ k = 1 ∨ k = 7 ∨ k = 8 then 0 else if k = 2 ∨ k = 3 then 2 else if k = 4 ∨ k = 5 ∨ k = 6 then 1 else -1

theorem kidsE_in (lim : Nat) (H : Hp) (k : Int) (h0 : 0 ≤ k) (h1 : k ≤ 8) : execCall X 60 lim 35 [.int .i64 k] H = some (.int .i64 (kidsN k), H) := by
  have : k = 0 ∨ k = 1 ∨ k = 2 ∨ k = 3 ∨ k = 4 ∨ k = 5 ∨ k = 6 ∨ k = 7 ∨ k = 8 := by omega
  rcases this with rfl | rfl | rfl | rfl | rfl | rfl | rfl | rfl | rfl <;> (refine Eq.trans ?_ (Eq.refl _); kernel_rfl)
theorem kidsR_in (lim : Nat) (H : Hp) (k : Int) (h0 : 0 ≤ k) (h1 : k ≤ 8) : execCall X 60 lim 28 [.int .i64 k] H = some (.int .i64 (kidsN k), H) := by
  have : k = 0 ∨ k = 1 ∨ k = 2 ∨ k = 3 ∨ k = 4 ∨ k = 5 ∨ k = 6 ∨ k = 7 ∨ k = 8 := by omega
  rcases this with rfl | rfl | rfl | rfl | rfl | rfl | rfl | rfl | rfl <;> (refine Eq.trans ?_ (Eq.refl _); kernel_rfl)

theorem kidsE_out (lim : Nat) (H : Hp) (k : Int) (h : k < 0 ∨ 8 < k) : CallEx X lim 35 [.int .i64 k] H fun v H1 => v = .int .i64 (-1) ∧ H1 = H := by
  have e0 : decide (k = 0) = false := by simp; omega
  have e1 : decide (k = 1) = false := by simp; omega
  have e2 : decide (k = 2) = false := by simp; omega
  have e3 : decide (k = 3) = false := by simp; omega
  have e4 : decide (k = 4) = false := by simp; omega
  have e5 : decide (k = 5) = false := by simp; omega
  have e6 : decide (k = 6) = false := by simp; omega
  have e7 : decide (k = 7) = false := by simp; omega
  have e8 : decide (k = 8) = false := by simp; omega
  (refine call_intro fun35 name35 body35 ?_; simp only [Try.ntmps35, List.map_cons, List.map_nil, List.length_cons, List.length_nil, Nat.zero_add, Nat.reduceSub, List.replicate_succ, List.replicate_zero, List.cons_append, List.nil_append])
  refine rS c35_l c35_r rfl ?_
  refine run_region rfl ?_
  simp only [sX, simprocAttr, -List.reduceReplicate]
  refine rS c35_rl c35_rr rfl ?_
  refine rS c35_rll c35_rlr rfl ?_
  refine run_region rfl ?_
  simp only [sX, simprocAttr, -List.reduceReplicate]
  refine run_block (b := c35_rlrb) rfl ?_
  refine rS c35_rlrbl c35_rlrbr rfl ?_
  refine rS c35_rlrbll c35_rlrblr rfl ?_
  refine run_region rfl ?_
  simp only [sX, simprocAttr, -List.reduceReplicate, e0]
  refine rF c35_rlrblrt c35_rlrblre rfl rfl ?_
  refine rS c35_rlrblrel c35_rlrblrer rfl ?_
  refine run_region rfl ?_
  simp only [sX, simprocAttr, -List.reduceReplicate, e1]
  refine rF c35_rlrblrert c35_rlrblrere rfl rfl ?_
  refine rS c35_rlrblrerel c35_rlrblrerer rfl ?_
  refine run_region rfl ?_
  simp only [sX, simprocAttr, -List.reduceReplicate, e7]
  refine rF c35_rlrblrerert c35_rlrblrerere rfl rfl ?_
  refine run_region rfl ?_
  simp only [sX, simprocAttr, -List.reduceReplicate, e8]
  refine rF c35_rlrbrt c35_rlrbre rfl rfl ?_
  refine rS c35_rlrbrel c35_rlrbrer rfl ?_
  refine rS c35_rlrbrell c35_rlrbrelr rfl ?_
  refine run_region rfl ?_
  simp only [sX, simprocAttr, -List.reduceReplicate, e2]
  refine rF c35_rlrbrelrt c35_rlrbrelre rfl rfl ?_
  refine run_region rfl ?_
  simp only [sX, simprocAttr, -List.reduceReplicate, e3]
  refine rF c35_rlrbrert c35_rlrbrere rfl rfl ?_
  refine rS c35_rlrbrerel c35_rlrbrerer rfl ?_
  refine rS c35_rlrbrerell c35_rlrbrerelr rfl ?_
  refine run_region rfl ?_
  simp only [sX, simprocAttr, -List.reduceReplicate, e4]
  refine rF c35_rlrbrerelrt c35_rlrbrerelre rfl rfl ?_
  refine rS c35_rlrbrerelrel c35_rlrbrerelrer rfl ?_
  refine run_region rfl ?_
  simp only [sX, simprocAttr, -List.reduceReplicate, e5]
  refine rF c35_rlrbrerelrert c35_rlrbrerelrere rfl rfl ?_
  refine run_region rfl ?_
  simp only [sX, simprocAttr, -List.reduceReplicate, e6]
  refine rF c35_rlrbrerert c35_rlrbrerere rfl rfl ?_
  refine run_skip rfl ?_
  simp only [sP]
  refine rS c35_rrl c35_rrr rfl ?_
  refine run_region rfl ?_
  simp only [sX, simprocAttr, -List.reduceReplicate]
  refine run_ret rfl ?_
  (simp only [sP]; refine ⟨_, (by rw [resultsA_eq Try.results35]; simp only [sR, List.mapM_cons, List.mapM_nil]; rfl), ?_⟩)
  exact ⟨rfl, trivial⟩
theorem kidsR_out (lim : Nat) (H : Hp) (k : Int) (h : k < 0 ∨ 8 < k) : CallEx X lim 28 [.int .i64 k] H fun v H1 => v = .int .i64 (-1) ∧ H1 = H := by
  have e0 : decide (k = 0) = false := by simp; omega
  have e1 : decide (k = 1) = false := by simp; omega
  have e2 : decide (k = 2) = false := by simp; omega
  have e3 : decide (k = 3) = false := by simp; omega
  have e4 : decide (k = 4) = false := by simp; omega
  have e5 : decide (k = 5) = false := by simp; omega
  have e6 : decide (k = 6) = false := by simp; omega
  have e7 : decide (k = 7) = false := by simp; omega
  have e8 : decide (k = 8) = false := by simp; omega
  (refine call_intro fun28 name28 body28 ?_; simp only [Try.ntmps28, List.map_cons, List.map_nil, List.length_cons, List.length_nil, Nat.zero_add, Nat.reduceSub, List.replicate_succ, List.replicate_zero, List.cons_append, List.nil_append])
  refine rS c28_l c28_r rfl ?_
  refine run_region rfl ?_
  simp only [sX, simprocAttr, -List.reduceReplicate]
  refine rS c28_rl c28_rr rfl ?_
  refine rS c28_rll c28_rlr rfl ?_
  refine run_region rfl ?_
  simp only [sX, simprocAttr, -List.reduceReplicate]
  refine run_block (b := c28_rlrb) rfl ?_
  refine rS c28_rlrbl c28_rlrbr rfl ?_
  refine rS c28_rlrbll c28_rlrblr rfl ?_
  refine run_region rfl ?_
  simp only [sX, simprocAttr, -List.reduceReplicate, e0]
  refine rF c28_rlrblrt c28_rlrblre rfl rfl ?_
  refine rS c28_rlrblrel c28_rlrblrer rfl ?_
  refine run_region rfl ?_
  simp only [sX, simprocAttr, -List.reduceReplicate, e1]
  refine rF c28_rlrblrert c28_rlrblrere rfl rfl ?_
  refine rS c28_rlrblrerel c28_rlrblrerer rfl ?_
  refine run_region rfl ?_
  simp only [sX, simprocAttr, -List.reduceReplicate, e7]
  refine rF c28_rlrblrerert c28_rlrblrerere rfl rfl ?_
  refine run_region rfl ?_
  simp only [sX, simprocAttr, -List.reduceReplicate, e8]
  refine rF c28_rlrbrt c28_rlrbre rfl rfl ?_
  refine rS c28_rlrbrel c28_rlrbrer rfl ?_
  refine rS c28_rlrbrell c28_rlrbrelr rfl ?_
  refine run_region rfl ?_
  simp only [sX, simprocAttr, -List.reduceReplicate, e4]
  refine rF c28_rlrbrelrt c28_rlrbrelre rfl rfl ?_
  refine rS c28_rlrbrelrel c28_rlrbrelrer rfl ?_
  refine run_region rfl ?_
  simp only [sX, simprocAttr, -List.reduceReplicate, e5]
  refine rF c28_rlrbrelrert c28_rlrbrelrere rfl rfl ?_
  refine run_region rfl ?_
  simp only [sX, simprocAttr, -List.reduceReplicate, e6]
  refine rF c28_rlrbrert c28_rlrbrere rfl rfl ?_
  refine rS c28_rlrbrerel c28_rlrbrerer rfl ?_
  refine rS c28_rlrbrerell c28_rlrbrerelr rfl ?_
  refine run_region rfl ?_
  simp only [sX, simprocAttr, -List.reduceReplicate, e2]
  refine rF c28_rlrbrerelrt c28_rlrbrerelre rfl rfl ?_
  refine run_region rfl ?_
  simp only [sX, simprocAttr, -List.reduceReplicate, e3]
  refine rF c28_rlrbrerert c28_rlrbrerere rfl rfl ?_
  refine run_skip rfl ?_
  simp only [sP]
  refine rS c28_rrl c28_rrr rfl ?_
  refine run_region rfl ?_
  simp only [sX, simprocAttr, -List.reduceReplicate]
  refine run_ret rfl ?_
  (simp only [sP]; refine ⟨_, (by rw [resultsA_eq Try.results28]; simp only [sR, List.mapM_cons, List.mapM_nil]; rfl), ?_⟩)
  exact ⟨rfl, trivial⟩
end Go.Proofs.Ytmgofjgfmcmceaa
end
section
namespace Go.Proofs.Ytmgofjgfmcmceaa
open Go.RowKit

/-- A set of bytes: four words. -/
structure S4 where
  a : BitVec 64
  b : BitVec 64
  c : BitVec 64
  d : BitVec 64
  deriving DecidableEq

/-- A tree: its kind, its set, its kids. -/
inductive Tr where
  | node (k : Int) (s : S4) (kids : List Tr)

def Tr.k : Tr → Int
  | .node k _ _ => k
def Tr.s : Tr → S4
  | .node _ s _ => s
def Tr.kids : Tr → List Tr
  | .node _ _ l => l

/-- A tree's own cells. -/
def reC (k : Int) (s : S4) (p : Option Addr) (n : Nat) : List Value := [.int .i64 k, .int .u64 s.a.toNat, .int .u64 s.b.toNat, .int .u64 s.c.toNat, .int .u64 s.d.toNat, .slice p n n]

/-- These cells are a tree, whose kids lie in objects that S has. -/
inductive IsRe (H : Hp) (S : Nat → Prop) : Tr → List Value → Prop where
  | nil (k : Int) (s : S4) : IsRe H S (.node k s []) (reC k s none 0)
  | cons (k : Int) (s : S4) (kids : List Tr) (b : Nat) (wr : Bool) (css : List (List Value)) (hn : kids ≠ []) (hS : S b) (hl : css.length = kids.length) (hb : getO H b = some ⟨wr, 6, css.flatten⟩)
      (hk : ∀ (i : Nat) (h : i < kids.length) (h' : i < css.length), IsRe H S kids[i] css[i]) : IsRe H S (.node k s kids) (reC k s (some ⟨b, 0, none⟩) kids.length)

theorem IsRe.mono {H H1 : Hp} {S S1 : Nat → Prop} (hS : ∀ b, S b → S1 b) (hH : ∀ b, S b → getO H1 b = getO H b) {r : Tr} {cs : List Value} (h : IsRe H S r cs) : IsRe H1 S1 r cs := by
  induction h with
  | nil k s => exact .nil k s
  | cons k s kids b wr css hn hSb hl hb hk ih => exact .cons k s kids b wr css hn (hS b hSb) hl (by rw [hH b hSb]; exact hb) ih
theorem IsRe.len {H : Hp} {S : Nat → Prop} {r : Tr} {cs : List Value} (h : IsRe H S r cs) : cs.length = 6 := by cases h <;> rfl
theorem getO_app {H : Hp} {b : Nat} (G : Hp) (o : AObj) (h : getO H b = some o) : getO (H ++ G) b = some o := by
  rw [getO_ext G (getO_lt h)]; exact h
theorem getO_new (H : Hp) (o : AObj) : getO (H ++ [some o]) H.length = some o := by simp [getO]
theorem IsRe.app {H : Hp} {S : Nat → Prop} {r : Tr} {cs : List Value} (G : Hp) (h : IsRe H S r cs) : IsRe (H ++ G) S r cs := by
  induction h with
  | nil k s => exact .nil k s
  | cons k s kids b wr css hn hSb hl hb hk ih => exact .cons k s kids b wr css hn hSb hl (getO_app G _ hb) ih
end Go.Proofs.Ytmgofjgfmcmceaa
end
section
namespace Go.Proofs.Ytmgofjgfmcmceaa
open Go.RowKit

theorem set_neq (x y : Operand) (a b c d : Int) : binR X.P .neq 28 x y (.agg #[.int .u64 a, .int .u64 b, .int .u64 c, .int .u64 d]) (.agg #[.int .u64 0, .int .u64 0, .int .u64 0, .int .u64 0]) = some (.bool (!(decide (a = 0) && (decide (b = 0) && (decide (c = 0) && decide (d = 0)))))) := by
  rcases a with (_ | a) | a
  · rcases b with (_ | b) | b
    · rcases c with (_ | c) | c
      · rcases d with (_ | d) | d
        · refine Eq.trans ?_ (Eq.refl _); kernel_rfl
        · refine Eq.trans ?_ (Eq.refl _); kernel_rfl
        · refine Eq.trans ?_ (Eq.refl _); kernel_rfl
      · refine Eq.trans ?_ (Eq.refl _); kernel_rfl
      · refine Eq.trans ?_ (Eq.refl _); kernel_rfl
    · refine Eq.trans ?_ (Eq.refl _); kernel_rfl
    · refine Eq.trans ?_ (Eq.refl _); kernel_rfl
  · refine Eq.trans ?_ (Eq.refl _); kernel_rfl
  · refine Eq.trans ?_ (Eq.refl _); kernel_rfl
end Go.Proofs.Ytmgofjgfmcmceaa
end
section
namespace Go.Proofs.Ytmgofjgfmcmceaa
open Go.RowKit
set_option maxRecDepth 4000

/-- The reader of an expression, as cells. -/
def rdC (s : ByteArray) (at' op : Int) (bad fr : Int) : List Value := [.string s, .int .i64 at', .int .i64 op, .int .i64 bad, .int .i64 fr]

theorem more_spec (lim : Nat) (H : Hp) (rb : Nat) (wr : Bool) (s : ByteArray) (a op bad fr : Int) (hr : getO H rb = some ⟨wr, 0, rdC s a op bad fr⟩) :
    CallEx X lim 23 [.pointer (some ⟨rb, 0, none⟩)] H fun v H1 => v = .bool (decide (a < s.size)) ∧ H1 = H := by
  unfold rdC at hr
  have hlt := getO_lt hr
  (refine call_intro fun23 name23 body23 ?_; simp only [Try.ntmps23, List.map_cons, List.map_nil, List.length_cons, List.length_nil, Nat.zero_add, Nat.reduceSub, List.replicate_succ, List.replicate_zero, List.cons_append, List.nil_append])
  refine rS c23_l c23_r rfl ?_
  refine run_region rfl ?_
  simp only [sX, simprocAttr, -List.reduceReplicate]
  refine rS c23_rl c23_rr rfl ?_
  refine run_draw rfl c23_rl_ok c23_rl_dr ?_
  simp only [sX, simprocAttr, -List.reduceReplicate, hr]
  refine run_ret rfl ?_
  (simp only [sP]; refine ⟨_, (by rw [resultsA_eq Try.results23]; simp only [sR, List.mapM_cons, List.mapM_nil]; rfl), ?_⟩)
  exact ⟨rfl, trivial⟩

theorem strIx_lt {s : ByteArray} {i : Int} (h0 : 0 ≤ i) (h1 : i < s.size) : strIx s i = some (.int .u8 (s[i.toNat]'(by omega)).toNat) := by
  have : i.toNat < s.size := by omega
  unfold strIx
  rw [if_pos h0, getElem?_pos s i.toNat this]; rfl

/-- Does a byte stand there? -/
def isAt (s : ByteArray) (a : Int) (c : Int) : Bool := if h : 0 ≤ a ∧ a < s.size then decide (((s[a.toNat]'(by omega)).toNat : Int) = c) else false
theorem is_spec (lim : Nat) (H : Hp) (rb : Nat) (wr : Bool) (s : ByteArray) (a op bad fr c : Int) (hr : getO H rb = some ⟨wr, 0, rdC s a op bad fr⟩) (h0 : 0 ≤ a) :
    CallEx X lim 30 [.pointer (some ⟨rb, 0, none⟩), .int .u8 c] H fun v H1 => v = .bool (isAt s a c) ∧ H1 = H := by
  have hr' := hr
  unfold rdC at hr
  have hlt := getO_lt hr
  (refine call_intro fun30 name30 body30 ?_; simp only [Try.ntmps30, List.map_cons, List.map_nil, List.length_cons, List.length_nil, Nat.zero_add, Nat.reduceAdd, Nat.reduceSub, List.replicate_succ, List.replicate_zero, List.cons_append, List.nil_append])
  refine rS c30_l c30_r rfl ?_
  refine run_region rfl ?_
  simp only [sX, simprocAttr, -List.reduceReplicate]
  refine rS c30_rl c30_rr rfl ?_
  refine run_draw rfl c30_rl_ok c30_rl_dr ?_
  simp only [sX, simprocAttr, -List.reduceReplicate]
  refine call_of (more_spec _ _ rb wr s a op bad fr hr') ?_
  rintro v H1 ⟨rfl, rfl⟩
  by_cases h1 : a < s.size
  · simp only [sX, simprocAttr, -List.reduceReplicate, hr, h1, strIx_lt h0 h1]
    refine run_ret rfl ?_
    (simp only [sP]; refine ⟨_, (by rw [resultsA_eq Try.results30]; simp only [sR, List.mapM_cons, List.mapM_nil]; rfl), ?_⟩)
    refine ⟨?_, trivial⟩
    simp [isAt, h0, h1]
  · simp only [sX, simprocAttr, -List.reduceReplicate, h1]
    refine run_ret rfl ?_
    (simp only [sP]; refine ⟨_, (by rw [resultsA_eq Try.results30]; simp only [sR, List.mapM_cons, List.mapM_nil]; rfl), ?_⟩)
    refine ⟨?_, trivial⟩
    simp [isAt, h1]
end Go.Proofs.Ytmgofjgfmcmceaa
end
section
namespace Go.Proofs.Ytmgofjgfmcmceaa
open Go.RowKit
set_option maxRecDepth 4000

/-- A piece's cells: a tree's, how deep, how many leaves. -/
def pcC (k a b c d : Int) (p : Option Addr) (n : Nat) (dp lv : Int) : Value := .agg #[.int .i64 k, .int .u64 a, .int .u64 b, .int .u64 c, .int .u64 d, .slice p n n, .int .i64 dp, .int .i64 lv, .bool false]

/-- Two pieces as one. -/
theorem two_ok (lim : Nat) (H : Hp) (kd k a b c d k' a' b' c' d' : Int) (p p' : Option Addr) (n n' : Nat) (dp lv dp' lv' : Int) (h0 : 0 ≤ dp) (h1 : dp + 1 ≤ 40) (h2 : 0 ≤ dp') (h3 : dp' ≤ 40) (h4 : 0 ≤ lv) (h5 : 0 ≤ lv') (h6 : lv + lv' ≤ 400) :
    CallEx X lim 40 [.int .i64 kd, pcC k a b c d p n dp lv, pcC k' a' b' c' d' p' n' dp' lv'] H fun v H1 =>
      v = pcC kd 0 0 0 0 (some ⟨H.length, 0, none⟩) 2 (max (dp + 1) dp') (lv + lv') ∧
      H1 = H ++ [some ⟨true, 6, [.int .i64 k, .int .u64 a, .int .u64 b, .int .u64 c, .int .u64 d, .slice p n n, .int .i64 k', .int .u64 a', .int .u64 b', .int .u64 c', .int .u64 d', .slice p' n' n']⟩] := by
  unfold pcC
  (refine call_intro fun40 name40 body40 ?_; simp only [Try.ntmps40, List.map_cons, List.map_nil, List.length_cons, List.length_nil, Nat.zero_add, Nat.reduceAdd, Nat.reduceSub, List.replicate_succ, List.replicate_zero, List.cons_append, List.nil_append])
  refine rS c40_l c40_r rfl ?_
  refine run_region rfl ?_
  simp only [sX, simprocAttr, -List.reduceReplicate]
  refine rS c40_rl c40_rr rfl ?_
  refine run_region rfl ?_
  simp only [sX, simprocAttr, -List.reduceReplicate]
  rw [IntWalk.i64_in (dp + 1) (by omega), IntWalk.i64_in (lv + lv') (by omega)]
  refine call_of (fits_ok _ _ kd 0 0 0 0 _ 2 2 (max (dp + 1) dp') (lv + lv') (by omega) h6) ?_
  rintro v H1 ⟨rfl, rfl⟩
  simp only [sX, simprocAttr, -List.reduceReplicate]
  refine run_ret rfl ?_
  (simp only [sP]; refine ⟨_, (by rw [resultsA_eq Try.results40]; simp only [sR, List.mapM_cons, List.mapM_nil, if_true, Nat.reduceAdd]; rfl), ?_⟩)
  exact ⟨rfl, trivial⟩
end Go.Proofs.Ytmgofjgfmcmceaa
end
section
namespace Go.Proofs.Ytmgofjgfmcmceaa
open Go.RowKit

theorem tmod_pick (n m : Int) (hm : 0 < m) : (n.tmod m < 0 → n.tmod m + m = n % m) ∧ (0 ≤ n.tmod m → n.tmod m = n % m) ∧ -m < n.tmod m ∧ n.tmod m < m := by
  have h1 := Int.emod_nonneg n (Int.ne_of_gt hm)
  have h2 := Int.emod_lt_of_pos n hm
  have h3 : n.tmod m = n % m - ((if 0 ≤ n ∨ m ∣ n then 0 else m.natAbs : Nat) : Int) := Int.tmod_eq_emod
  have h5 : 0 ≤ n → 0 ≤ n.tmod m := fun h => Int.tmod_nonneg m h
  split at h3
  · omega
  · rename_i hn
    by_cases h6 : n % m = 0
    · exact absurd (Or.inr (Int.dvd_of_emod_eq_zero h6)) hn
    · omega
/-- A text from a place on. -/
def tl (s : ByteArray) (a : Nat) : List UInt8 := s.data.toList.drop a
theorem tl_cons {s : ByteArray} {a : Nat} {c : UInt8} {r : List UInt8} (h : tl s a = c :: r) : a < s.size ∧ s[a]? = some c ∧ tl s (a + 1) = r := by
  unfold tl at h ⊢
  have hl : a < s.data.toList.length := by
    rcases Nat.lt_or_ge a s.data.toList.length with h1 | h1
    · exact h1
    · rw [List.drop_eq_nil_of_le h1] at h; cases h
  have hs : a < s.size := by simpa using hl
  refine ⟨hs, ?_, ?_⟩
  · rw [getElem?_pos s a hs]
    have : (s.data.toList.drop a)[0]? = some c := by rw [h]; rfl
    rw [List.getElem?_drop] at this
    simp only [Nat.add_zero] at this
    rw [List.getElem?_eq_getElem hl] at this
    exact this
  · have := congrArg List.tail h
    simpa using this
theorem tl_nil {s : ByteArray} {a : Nat} (h : tl s a = []) : s.size ≤ a := by
  unfold tl at h
  have := List.drop_eq_nil_iff.mp h
  simpa using this
theorem tl_app {s : ByteArray} {a : Nat} {w r : List UInt8} (h : tl s a = w ++ r) : tl s (a + w.length) = r := by
  unfold tl at h ⊢
  rw [← List.drop_drop, h]; simp
theorem isAt_cons {s : ByteArray} {a : Nat} {c : UInt8} {r : List UInt8} (h : tl s a = c :: r) (n : Int) : isAt s a n = decide ((c.toNat : Int) = n) := by
  obtain ⟨h1, h2, _⟩ := tl_cons h
  unfold isAt
  rw [dif_pos (by omega)]
  rw [getElem?_pos s a h1] at h2
  simp only [Int.toNat_natCast, Option.some.injEq] at h2 ⊢
  simp only [h2]
theorem isAt_nil {s : ByteArray} {a : Nat} (h : tl s a = []) (n : Int) : isAt s a n = false := by
  have := tl_nil h
  unfold isAt
  rw [dif_neg (by omega)]
theorem strIx_cons {s : ByteArray} {a : Nat} {c : UInt8} {r : List UInt8} (h : tl s a = c :: r) : strIx s (a : Int) = some (.int .u8 (c.toNat : Int)) := by
  obtain ⟨h1, h2, _⟩ := tl_cons h
  unfold strIx
  rw [if_pos (by omega), Int.toNat_natCast, h2]; rfl
end Go.Proofs.Ytmgofjgfmcmceaa
end
section
namespace Go.Proofs.Ytmgofjgfmcmceaa
open Go.RowKit
set_option maxRecDepth 4000

/-- A row of one piece. -/
theorem row_1 (lim : Nat) (H : Hp) (kd k a b c d : Int) (p : Option Addr) (n : Nat) (dp lv : Int) (lb : Nat) (wr : Bool)
    (hl : getO H lb = some ⟨wr, 9, [.int .i64 k, .int .u64 a, .int .u64 b, .int .u64 c, .int .u64 d, .slice p n n, .int .i64 dp, .int .i64 lv, .bool false]⟩) :
    CallEx X lim 31 [.int .i64 kd, .slice (some ⟨lb, 0, none⟩) 1 1] H fun v H1 => v = pcC k a b c d p n dp lv ∧ H1 = H := by
  (refine call_intro fun31 name31 body31 ?_; simp only [Try.ntmps31, List.map_cons, List.map_nil, List.length_cons, List.length_nil, Nat.zero_add, Nat.reduceAdd, Nat.reduceSub, List.replicate_succ, List.replicate_zero, List.cons_append, List.nil_append])
  refine rS c31_l c31_r rfl ?_
  refine run_region rfl ?_
  simp only [sX, simprocAttr, -List.reduceReplicate]
  refine rS c31_rl c31_rr rfl ?_
  refine run_region rfl ?_
  simp only [sX, simprocAttr, -List.reduceReplicate, hl]
  refine rS c31_rrl c31_rrr rfl ?_
  refine rS c31_rrll c31_rrlr rfl ?_
  refine run_region rfl ?_
  simp only [sX, simprocAttr, -List.reduceReplicate]
  refine run_block (b := c31_rrlrb) rfl ?_
  (refine run_loopk (b := c31_rrlrbo) rfl keep31_3 ?_; simp only [sC, Nat.reduceBEq, Nat.reduceAdd])
  refine rS c31_rrlrbol c31_rrlrbor rfl ?_
  refine rS c31_rrlrboll c31_rrlrbolr rfl ?_
  refine run_region rfl ?_
  simp only [sX, simprocAttr, -List.reduceReplicate]
  refine rF c31_rrlrbolrt c31_rrlrbolre rfl rfl ?_
  refine run_exit rfl ?_
  simp only [sP, if_true]
  refine rS c31_rrrl c31_rrrr rfl ?_
  refine run_region rfl ?_
  simp only [sX, simprocAttr, -List.reduceReplicate]
  refine run_ret rfl ?_
  (simp only [sP]; refine ⟨_, (by rw [resultsA_eq Try.results31]; simp only [sR, List.mapM_cons, List.mapM_nil, if_true, Nat.reduceAdd]; rfl), ?_⟩)
  exact ⟨rfl, trivial⟩

theorem row_2 (lim : Nat) (H : Hp) (kd k a b c d k' a' b' c' d' : Int) (p p' : Option Addr) (n n' : Nat) (dp lv dp' lv' : Int) (h0 : 0 ≤ dp) (h1 : dp + 1 ≤ 40) (h2 : 0 ≤ dp') (h3 : dp' ≤ 40) (h4 : 0 ≤ lv) (h5 : 0 ≤ lv') (h6 : lv + lv' ≤ 400) (lb : Nat) (wr : Bool)
    (hl : getO H lb = some ⟨wr, 9, [.int .i64 k, .int .u64 a, .int .u64 b, .int .u64 c, .int .u64 d, .slice p n n, .int .i64 dp, .int .i64 lv, .bool false, .int .i64 k', .int .u64 a', .int .u64 b', .int .u64 c', .int .u64 d', .slice p' n' n', .int .i64 dp', .int .i64 lv', .bool false]⟩) :
    CallEx X lim 31 [.int .i64 kd, .slice (some ⟨lb, 0, none⟩) 2 2] H fun v H1 =>
      v = pcC kd 0 0 0 0 (some ⟨H.length, 0, none⟩) 2 (max (dp + 1) dp') (lv + lv') ∧
      H1 = H ++ [some ⟨true, 6, [.int .i64 k, .int .u64 a, .int .u64 b, .int .u64 c, .int .u64 d, .slice p n n, .int .i64 k', .int .u64 a', .int .u64 b', .int .u64 c', .int .u64 d', .slice p' n' n']⟩] := by
  (refine call_intro fun31 name31 body31 ?_; simp only [Try.ntmps31, List.map_cons, List.map_nil, List.length_cons, List.length_nil, Nat.zero_add, Nat.reduceAdd, Nat.reduceSub, List.replicate_succ, List.replicate_zero, List.cons_append, List.nil_append])
  refine rS c31_l c31_r rfl ?_
  refine run_region rfl ?_
  simp only [sX, simprocAttr, -List.reduceReplicate, pcC]
  refine rS c31_rl c31_rr rfl ?_
  refine run_region rfl ?_
  simp only [sX, simprocAttr, -List.reduceReplicate, hl]
  refine rS c31_rrl c31_rrr rfl ?_
  refine rS c31_rrll c31_rrlr rfl ?_
  refine run_region rfl ?_
  simp only [sX, simprocAttr, -List.reduceReplicate]
  refine run_block (b := c31_rrlrb) rfl ?_
  (refine run_loopk (b := c31_rrlrbo) rfl keep31_3 ?_; simp only [sC, Nat.reduceBEq, Nat.reduceAdd])
  refine rS c31_rrlrbol c31_rrlrbor rfl ?_
  refine rS c31_rrlrboll c31_rrlrbolr rfl ?_
  refine run_region rfl ?_
  simp only [sX, simprocAttr, -List.reduceReplicate]
  refine rT c31_rrlrbolrt c31_rrlrbolre rfl rfl ?_
  refine run_skip rfl ?_
  simp only [sP]
  refine rS c31_rrlrborl c31_rrlrborr rfl ?_
  refine run_block (b := c31_rrlrborlb) rfl ?_
  refine run_draw rfl c31_rrlrborlb_ok c31_rrlrborlb_dr ?_
  simp only [sX, simprocAttr, -List.reduceReplicate, hl]
  refine call_of (two_ok _ _ kd k a b c d k' a' b' c' d' p p' n n' dp lv dp' lv' h0 h1 h2 h3 h4 h5 h6) ?_
  rintro v H1 ⟨rfl, rfl⟩
  simp only [sX, simprocAttr, -List.reduceReplicate, pcC]
  refine run_region rfl ?_
  simp only [sX, simprocAttr, -List.reduceReplicate]
  (refine run_loopk (b := c31_rrlrbo) rfl keep31_3 ?_; simp only [sC, Nat.reduceBEq, Nat.reduceAdd])
  refine rS c31_rrlrbol c31_rrlrbor rfl ?_
  refine rS c31_rrlrboll c31_rrlrbolr rfl ?_
  refine run_region rfl ?_
  simp only [sX, simprocAttr, -List.reduceReplicate]
  refine rF c31_rrlrbolrt c31_rrlrbolre rfl rfl ?_
  refine run_exit rfl ?_
  simp only [sP, if_true]
  refine rS c31_rrrl c31_rrrr rfl ?_
  refine run_region rfl ?_
  simp only [sX, simprocAttr, -List.reduceReplicate]
  refine run_ret rfl ?_
  (simp only [sP]; refine ⟨_, (by rw [resultsA_eq Try.results31]; simp only [sR, List.mapM_cons, List.mapM_nil, if_true, Nat.reduceAdd]; rfl), ?_⟩)
  exact ⟨rfl, trivial⟩
end Go.Proofs.Ytmgofjgfmcmceaa
end
section
namespace Go.Proofs.Ytmgofjgfmcmceaa
open Go.RowKit
set_option maxRecDepth 4000

mutual
/-- How deep it nests, as the parser counts. -/
def Tr.dp : Tr → Int
  | .node _ _ l => dpL l
def dpL : List Tr → Int
  | [] => 1
  | [a] => a.dp + 1
  | a :: b :: _ => max (a.dp + 1) b.dp
end
mutual
/-- How many leaves. -/
def Tr.lv : Tr → Int
  | .node _ _ l => lvL l
def lvL : List Tr → Int
  | [] => 1
  | [a] => a.lv
  | a :: b :: _ => a.lv + b.lv
end
mutual
theorem Tr.dp_pos : ∀ T : Tr, 1 ≤ T.dp
  | .node _ _ l => dpL_pos l
theorem dpL_pos : ∀ l : List Tr, 1 ≤ dpL l
  | [] => by simp [dpL]
  | [a] => by have := a.dp_pos; simp only [dpL]; omega
  | a :: b :: _ => by have := a.dp_pos; have := b.dp_pos; simp only [dpL]; omega
end
mutual
theorem Tr.lv_pos : ∀ T : Tr, 1 ≤ T.lv
  | .node _ _ l => lvL_pos l
theorem lvL_pos : ∀ l : List Tr, 1 ≤ lvL l
  | [] => by simp [lvL]
  | [a] => by have := a.lv_pos; simp only [lvL]; omega
  | a :: b :: _ => by have := a.lv_pos; have := b.lv_pos; simp only [lvL]; omega
end

theorem IsRe.mono2 {H H1 : Hp} {S S1 : Nat → Prop} (hS : ∀ b, S b → S1 b) (hH : ∀ b, S b → b < H.length → getO H1 b = getO H b) {r : Tr} {cs : List Value} (h : IsRe H S r cs) : IsRe H1 S1 r cs := by
  induction h with
  | nil k s => exact .nil k s
  | cons k s kids b wr css hn hSb hl hb hk ih => exact .cons k s kids b wr css hn (hS b hSb) hl (by rw [hH b hSb (getO_lt hb)]; exact hb) ih

/-- The reader stands there. -/
def isRd (H : Hp) (rb : Nat) (s : ByteArray) (a : Nat) (op : Int) : Prop := getO H rb = some ⟨true, 0, rdC s a op 0 0⟩
/-- A piece's value is this tree's, of objects from lo on. -/
def Pc (H : Hp) (lo : Nat) (T : Tr) (v : Value) : Prop :=
  ∃ p n, v = pcC T.k T.s.a.toNat T.s.b.toNat T.s.c.toNat T.s.d.toNat p n T.dp T.lv ∧ IsRe H (fun b => lo ≤ b) T (reC T.k T.s p n)
/-- What a call has got: a tree; the reader stands at a; nothing else that was there is changed. -/
def Got (H : Hp) (rb : Nat) (s : ByteArray) (a : Nat) (op : Int) (T : Tr) (v : Value) (H1 : Hp) : Prop :=
  H.length ≤ H1.length ∧ (∀ b, b < H.length → b ≠ rb → getO H1 b = getO H b) ∧ isRd H1 rb s a op ∧ Pc H1 H.length T v

/-- The byte that stands ahead. -/
def hd : List UInt8 → Int → Bool
  | [], _ => false
  | c :: _, n => decide ((c.toNat : Int) = n)
theorem isAt_hd {s : ByteArray} {a : Nat} {w : List UInt8} (h : tl s a = w) (n : Int) : isAt s a n = hd w n := by
  cases w with
  | nil => exact isAt_nil h n
  | cons c r => exact isAt_cons h n
theorem tl_more {s : ByteArray} {a : Nat} {w : List UInt8} (h : tl s a = w) : decide ((a : Int) < s.size) = !w.isEmpty := by
  cases w with
  | nil => have := tl_nil h; simp; omega
  | cons c r => have := (tl_cons h).1; simp; omega
theorem more_tl (lim : Nat) {H : Hp} {rb : Nat} {s : ByteArray} {a : Nat} {op : Int} {w : List UInt8} (hr : isRd H rb s a op) (h : tl s a = w) :
    CallEx X lim 23 [.pointer (some ⟨rb, 0, none⟩)] H fun v H1 => v = .bool (!w.isEmpty) ∧ H1 = H := by
  rw [← tl_more h]
  exact more_spec lim H rb true s a op 0 0 hr
theorem is_tl (lim : Nat) {H : Hp} {rb : Nat} {s : ByteArray} {a : Nat} {op : Int} {w : List UInt8} (hr : isRd H rb s a op) (h : tl s a = w) (c : Int) :
    CallEx X lim 30 [.pointer (some ⟨rb, 0, none⟩), .int .u8 c] H fun v H1 => v = .bool (hd w c) ∧ H1 = H := by
  rw [← isAt_hd h]
  exact is_spec lim H rb true s a op 0 0 c hr (by omega)
/-- Is it the end of a row? -/
def stops (w : List UInt8) : Prop := w = [] ∨ hd w 41 = true
theorem stops_hd {w : List UInt8} (h : stops w) {n : Int} (hn : n ≠ 41) : hd w n = false := by
  cases w with
  | nil => rfl
  | cons c r =>
    rcases h with h | h
    · cases h
    · simp only [hd, decide_eq_true_eq] at h
      simp only [hd, decide_eq_false_iff_not]
      omega
end Go.Proofs.Ytmgofjgfmcmceaa
end
section
namespace Go.Proofs.Ytmgofjgfmcmceaa
open Go.RowKit
set_option maxRecDepth 4000

theorem isRd.snoc {H : Hp} {rb : Nat} {s : ByteArray} {a : Nat} {op : Int} {x : Option AObj} (h : isRd H rb s a op) : isRd (H ++ [x]) rb s a op := by
  unfold isRd at h ⊢
  rw [getO_snoc (getO_lt h)]; exact h
theorem got_snoc {H H1 : Hp} {rb : Nat} {s : ByteArray} {a : Nat} {op : Int} {T : Tr} {p : Option Addr} {n : Nat} {x : Option AObj} (h1 : H.length ≤ H1.length) (h2 : ∀ b, b < H.length → b ≠ rb → getO H1 b = getO H b) (h3 : isRd H1 rb s a op)
    (h4 : IsRe H1 (fun b => H.length ≤ b) T (reC T.k T.s p n)) : Got H rb s a op T (pcC T.k T.s.a.toNat T.s.b.toNat T.s.c.toNat T.s.d.toNat p n T.dp T.lv) (H1 ++ [x]) := by
  refine ⟨by rw [len_snoc]; omega, fun b hb hn => ?_, h3.snoc, p, n, rfl, h4.app _⟩
  rw [getO_snoc (by omega)]; exact h2 b hb hn

theorem pieces_1 (lim : Nat) (H : Hp) (rb : Nat) (s : ByteArray) (a1 : Nat) (op : Int) (T : Tr) (w : List UInt8)
    (h1 : CallEx X lim 39 [.pointer (some ⟨rb, 0, none⟩)] H (Got H rb s a1 op T)) (hw : tl s a1 = w) (hs : w = [] ∨ w.isEmpty = false ∧ hd w 124 = false ∧ hd w 41 = true ∨ w.isEmpty = false ∧ hd w 124 = true) :
    CallEx X lim 29 [.pointer (some ⟨rb, 0, none⟩)] H (Got H rb s a1 op T) := by
  rcases hs with hs | ⟨hs, hs', hs''⟩ | ⟨hs, hs'⟩

  · (refine call_intro fun29 name29 body29 ?_; simp only [Try.ntmps29, List.map_cons, List.map_nil, List.length_cons, List.length_nil, Nat.zero_add, Nat.reduceSub, List.replicate_succ, List.replicate_zero, List.cons_append, List.nil_append])
    refine rS c29_l c29_r rfl ?_
    refine run_region rfl ?_
    simp only [sX, simprocAttr, -List.reduceReplicate]
    refine rS c29_rl c29_rr rfl ?_
    refine run_region rfl ?_
    simp only [sX, simprocAttr, -List.reduceReplicate]
    refine call_of h1 ?_
    rintro v H1 ⟨hl1, hk1, hr1, p1, n1, rfl, ht1⟩
    have hr1' := hr1
    unfold isRd rdC at hr1'
    have hlt1 := getO_lt hr1
    unfold pcC
    simp only [sX, simprocAttr, -List.reduceReplicate]
    refine rS c29_rrl c29_rrr rfl ?_
    refine run_block (b := c29_rrlb) rfl ?_
    (refine run_loopk (b := c29_rrlbo) rfl keep29_2 ?_; simp only [sC, Nat.reduceBEq, Nat.reduceAdd])
    refine rS c29_rrlbol c29_rrlbor rfl ?_
    refine rS c29_rrlboll c29_rrlbolr rfl ?_
    refine run_regionG rfl c29_rrlboll_gs ?_
    simp only [sX, simprocAttr, -List.reduceReplicate, hr1', hlt1]
    refine call_of (more_tl _ (isRd.snoc hr1) hw) ?_
    rintro v H2 ⟨rfl, rfl⟩
    subst hs
    simp only [List.isEmpty_nil]
    simp only [sX, simprocAttr, -List.reduceReplicate]
    refine rF c29_rrlbolrt c29_rrlbolre rfl rfl ?_
    refine run_exit rfl ?_
    simp only [sP, if_true]
    refine rS c29_rrrl c29_rrrr rfl ?_
    refine run_region rfl ?_
    simp only [sX, simprocAttr, -List.reduceReplicate]
    refine call_of (row_1 _ _ _ _ _ _ _ _ _ _ _ _ _ true getO_append_new) ?_
    rintro v H2 ⟨rfl, rfl⟩
    unfold pcC
    simp only [sX, simprocAttr, -List.reduceReplicate]
    refine run_ret rfl ?_
    (simp only [sP]; refine ⟨_, (by rw [resultsA_eq Try.results29]; simp only [sR, List.mapM_cons, List.mapM_nil, if_true, Nat.reduceAdd]; rfl), ?_⟩)
    exact got_snoc hl1 hk1 hr1 ht1

  · (refine call_intro fun29 name29 body29 ?_; simp only [Try.ntmps29, List.map_cons, List.map_nil, List.length_cons, List.length_nil, Nat.zero_add, Nat.reduceSub, List.replicate_succ, List.replicate_zero, List.cons_append, List.nil_append])
    refine rS c29_l c29_r rfl ?_
    refine run_region rfl ?_
    simp only [sX, simprocAttr, -List.reduceReplicate]
    refine rS c29_rl c29_rr rfl ?_
    refine run_region rfl ?_
    simp only [sX, simprocAttr, -List.reduceReplicate]
    refine call_of h1 ?_
    rintro v H1 ⟨hl1, hk1, hr1, p1, n1, rfl, ht1⟩
    have hr1' := hr1
    unfold isRd rdC at hr1'
    have hlt1 := getO_lt hr1
    unfold pcC
    simp only [sX, simprocAttr, -List.reduceReplicate]
    refine rS c29_rrl c29_rrr rfl ?_
    refine run_block (b := c29_rrlb) rfl ?_
    (refine run_loopk (b := c29_rrlbo) rfl keep29_2 ?_; simp only [sC, Nat.reduceBEq, Nat.reduceAdd])
    refine rS c29_rrlbol c29_rrlbor rfl ?_
    refine rS c29_rrlboll c29_rrlbolr rfl ?_
    refine run_regionG rfl c29_rrlboll_gs ?_
    simp only [sX, simprocAttr, -List.reduceReplicate, hr1', hlt1]
    refine call_of (more_tl _ (isRd.snoc hr1) hw) ?_
    rintro v H2 ⟨rfl, rfl⟩
    rw [hs]
    simp only [sX, simprocAttr, -List.reduceReplicate]
    refine call_of (is_tl _ (isRd.snoc hr1) hw _) ?_
    rintro v H2 ⟨rfl, rfl⟩
    rw [hs']
    simp only [sX, simprocAttr, -List.reduceReplicate]
    refine call_of (is_tl _ (isRd.snoc hr1) hw _) ?_
    rintro v H2 ⟨rfl, rfl⟩
    rw [hs'']
    simp only [sX, simprocAttr, -List.reduceReplicate]
    refine rF c29_rrlbolrt c29_rrlbolre rfl rfl ?_
    refine run_exit rfl ?_
    simp only [sP, if_true]
    refine rS c29_rrrl c29_rrrr rfl ?_
    refine run_region rfl ?_
    simp only [sX, simprocAttr, -List.reduceReplicate]
    refine call_of (row_1 _ _ _ _ _ _ _ _ _ _ _ _ _ true getO_append_new) ?_
    rintro v H2 ⟨rfl, rfl⟩
    unfold pcC
    simp only [sX, simprocAttr, -List.reduceReplicate]
    refine run_ret rfl ?_
    (simp only [sP]; refine ⟨_, (by rw [resultsA_eq Try.results29]; simp only [sR, List.mapM_cons, List.mapM_nil, if_true, Nat.reduceAdd]; rfl), ?_⟩)
    exact got_snoc hl1 hk1 hr1 ht1

  · (refine call_intro fun29 name29 body29 ?_; simp only [Try.ntmps29, List.map_cons, List.map_nil, List.length_cons, List.length_nil, Nat.zero_add, Nat.reduceSub, List.replicate_succ, List.replicate_zero, List.cons_append, List.nil_append])
    refine rS c29_l c29_r rfl ?_
    refine run_region rfl ?_
    simp only [sX, simprocAttr, -List.reduceReplicate]
    refine rS c29_rl c29_rr rfl ?_
    refine run_region rfl ?_
    simp only [sX, simprocAttr, -List.reduceReplicate]
    refine call_of h1 ?_
    rintro v H1 ⟨hl1, hk1, hr1, p1, n1, rfl, ht1⟩
    have hr1' := hr1
    unfold isRd rdC at hr1'
    have hlt1 := getO_lt hr1
    unfold pcC
    simp only [sX, simprocAttr, -List.reduceReplicate]
    refine rS c29_rrl c29_rrr rfl ?_
    refine run_block (b := c29_rrlb) rfl ?_
    (refine run_loopk (b := c29_rrlbo) rfl keep29_2 ?_; simp only [sC, Nat.reduceBEq, Nat.reduceAdd])
    refine rS c29_rrlbol c29_rrlbor rfl ?_
    refine rS c29_rrlboll c29_rrlbolr rfl ?_
    refine run_regionG rfl c29_rrlboll_gs ?_
    simp only [sX, simprocAttr, -List.reduceReplicate, hr1', hlt1]
    refine call_of (more_tl _ (isRd.snoc hr1) hw) ?_
    rintro v H2 ⟨rfl, rfl⟩
    rw [hs]
    simp only [sX, simprocAttr, -List.reduceReplicate]
    refine call_of (is_tl _ (isRd.snoc hr1) hw _) ?_
    rintro v H2 ⟨rfl, rfl⟩
    rw [hs']
    simp only [sX, simprocAttr, -List.reduceReplicate]
    refine rF c29_rrlbolrt c29_rrlbolre rfl rfl ?_
    refine run_exit rfl ?_
    simp only [sP, if_true]
    refine rS c29_rrrl c29_rrrr rfl ?_
    refine run_region rfl ?_
    simp only [sX, simprocAttr, -List.reduceReplicate]
    refine call_of (row_1 _ _ _ _ _ _ _ _ _ _ _ _ _ true getO_append_new) ?_
    rintro v H2 ⟨rfl, rfl⟩
    unfold pcC
    simp only [sX, simprocAttr, -List.reduceReplicate]
    refine run_ret rfl ?_
    (simp only [sP]; refine ⟨_, (by rw [resultsA_eq Try.results29]; simp only [sR, List.mapM_cons, List.mapM_nil, if_true, Nat.reduceAdd]; rfl), ?_⟩)
    exact got_snoc hl1 hk1 hr1 ht1


def S4.z : S4 := ⟨0#64, 0#64, 0#64, 0#64⟩
theorem got_two {H H1 H2 H3 H4 : Hp} {rb : Nat} {s : ByteArray} {a2 : Nat} {op : Int} {T1 T2 : Tr} {p1 p2 : Option Addr} {n1 n2 : Nat} {kd : Int} (hrb : rb < H.length) (h1 : H.length ≤ H1.length) (k1 : ∀ b, b < H.length → b ≠ rb → getO H1 b = getO H b) (t1 : IsRe H1 (fun b => H.length ≤ b) T1 (reC T1.k T1.s p1 n1))
    (h2 : H1.length ≤ H2.length) (k2 : ∀ b, b < H1.length → b ≠ rb → getO H2 b = getO H1 b) (h3 : H2.length ≤ H3.length) (k3 : ∀ b, b < H2.length → b ≠ rb → getO H3 b = getO H2 b) (t2 : IsRe H3 (fun b => H2.length ≤ b) T2 (reC T2.k T2.s p2 n2)) (h2' : H1.length < H2.length)
    (h4 : H3.length ≤ H4.length) (k4 : ∀ b, b < H3.length → b ≠ H1.length → getO H4 b = getO H3 b) (hr : isRd H4 rb s a2 op) :
    Got H rb s a2 op (.node kd S4.z [T1, T2]) (pcC kd 0 0 0 0 (some ⟨H4.length, 0, none⟩) 2 (max (T1.dp + 1) T2.dp) (T1.lv + T2.lv)) (H4 ++ [some ⟨true, 6, [.int .i64 T1.k, .int .u64 T1.s.a.toNat, .int .u64 T1.s.b.toNat, .int .u64 T1.s.c.toNat, .int .u64 T1.s.d.toNat, .slice p1 n1 n1, .int .i64 T2.k, .int .u64 T2.s.a.toNat, .int .u64 T2.s.b.toNat, .int .u64 T2.s.c.toNat, .int .u64 T2.s.d.toNat, .slice p2 n2 n2]⟩]) := by
  refine ⟨by rw [len_snoc]; omega, fun b hb hn => ?_, hr.snoc, _, 2, rfl, ?_⟩
  · rw [getO_snoc (by omega), k4 b (by omega) (by omega), k3 b (by omega) hn, k2 b (by omega) hn, k1 b hb hn]
  · refine IsRe.cons kd S4.z [T1, T2] H4.length true [reC T1.k T1.s p1 n1, reC T2.k T2.s p2 n2] (by simp) (by omega) rfl getO_append_new ?_
    intro i hi hi'
    match i, hi, hi' with
    | 0, _, _ =>
      refine t1.mono2 (fun _ h => h) fun b hb hlt => ?_
      rw [getO_snoc (by omega), k4 b (by omega) (by omega), k3 b (by omega) (by omega), k2 b hlt (by omega)]
    | 1, _, _ =>
      refine t2.mono2 (fun b hb => Nat.le_trans h1 (Nat.le_trans h2 hb)) fun b hb hlt => ?_
      rw [getO_snoc (by omega), k4 b hlt (by omega)]


theorem pieces_2 (lim : Nat) (H : Hp) (rb : Nat) (s : ByteArray) (a0 a1 a2 : Nat) (op : Int) (T1 T2 : Tr) (w1 w2 : List UInt8) (hlim : lim ≤ rb) (hr0 : isRd H rb s a0 op)
    (h1 : CallEx X lim 39 [.pointer (some ⟨rb, 0, none⟩)] H (Got H rb s a1 op T1)) (hw1 : tl s a1 = w1) (e1 : w1.isEmpty = false) (e2 : hd w1 124 = false) (e3 : hd w1 41 = false)
    (h2 : ∀ H, isRd H rb s a1 op → CallEx X lim 39 [.pointer (some ⟨rb, 0, none⟩)] H (Got H rb s a2 op T2)) (hw2 : tl s a2 = w2) (hs : w2 = [] ∨ w2.isEmpty = false ∧ hd w2 124 = false ∧ hd w2 41 = true)
    (d1 : T1.dp + 1 ≤ 40) (d2 : T2.dp ≤ 40) (d3 : T1.lv + T2.lv ≤ 400) :
    CallEx X lim 29 [.pointer (some ⟨rb, 0, none⟩)] H (Got H rb s a2 op (.node 2 S4.z [T1, T2])) := by
  have q1 := T1.dp_pos
  have q2 := T2.dp_pos
  have q3 := T1.lv_pos
  have q4 := T2.lv_pos
  rcases hs with hs | ⟨hs, hs', hs''⟩

  · have hrb : rb < H.length := getO_lt hr0
    (refine call_intro fun29 name29 body29 ?_; simp only [Try.ntmps29, List.map_cons, List.map_nil, List.length_cons, List.length_nil, Nat.zero_add, Nat.reduceSub, List.replicate_succ, List.replicate_zero, List.cons_append, List.nil_append])
    refine rS c29_l c29_r rfl ?_
    refine run_region rfl ?_
    simp only [sX, simprocAttr, -List.reduceReplicate]
    refine rS c29_rl c29_rr rfl ?_
    refine run_region rfl ?_
    simp only [sX, simprocAttr, -List.reduceReplicate]
    refine call_of h1 ?_
    rintro v H1 ⟨hl1, hk1, hr1, p1, n1, rfl, ht1⟩
    have hr1' := hr1
    unfold isRd rdC at hr1'
    have hlt1 := getO_lt hr1
    unfold pcC
    simp only [sX, simprocAttr, -List.reduceReplicate]
    refine rS c29_rrl c29_rrr rfl ?_
    refine run_block (b := c29_rrlb) rfl ?_
    (refine run_loopk (b := c29_rrlbo) rfl keep29_2 ?_; simp only [sC, Nat.reduceBEq, Nat.reduceAdd])
    refine rS c29_rrlbol c29_rrlbor rfl ?_
    refine rS c29_rrlboll c29_rrlbolr rfl ?_
    refine run_regionG rfl c29_rrlboll_gs ?_
    simp only [sX, simprocAttr, -List.reduceReplicate, hr1', hlt1]
    refine call_of (more_tl _ (isRd.snoc hr1) hw1) ?_
    rintro v H2 ⟨rfl, rfl⟩
    rw [e1]
    simp only [sX, simprocAttr, -List.reduceReplicate]
    refine call_of (is_tl _ (isRd.snoc hr1) hw1 _) ?_
    rintro v H2 ⟨rfl, rfl⟩
    rw [e2]
    simp only [sX, simprocAttr, -List.reduceReplicate]
    refine call_of (is_tl _ (isRd.snoc hr1) hw1 _) ?_
    rintro v H2 ⟨rfl, rfl⟩
    rw [e3]
    simp only [sX, simprocAttr, -List.reduceReplicate]
    refine rT c29_rrlbolrt c29_rrlbolre rfl rfl ?_
    refine run_skip rfl ?_
    simp only [sP]
    refine run_block (b := c29_rrlborb) rfl ?_
    refine run_region rfl ?_
    simp only [sX, simprocAttr, -List.reduceReplicate]
    refine call_of (h2 _ (isRd.snoc hr1)) ?_
    rintro v H3 ⟨hl3, hk3, hr3, p3, n3, rfl, ht3⟩
    rw [len_snoc] at hl3 hk3 ht3
    have hlt3 := getO_lt hr3
    unfold pcC
    simp only [sX, simprocAttr, -List.reduceReplicate]
    refine append_of el68 sz58 (srcCells_obj getO_append_new rfl) (by decide) (by rw [getO_snoc (by omega), hk3 _ (by omega) (by omega)]; exact getO_append_new) (by split <;> omega) rfl (roomOk_of by58 zr58 sz58 rfl (by decide) (by decide)) rfl rfl ?_
    rintro H4 hl4 hk4 hn4
    rw [len_snoc] at hl4 hk4
    have hr4 : isRd H4 rb s a2 op := by unfold isRd; rw [hk4 rb (by omega) (by omega), getO_snoc (by omega)]; exact hr3
    have hr4' := hr4
    unfold isRd rdC at hr4'
    simp only [sX, simprocAttr, -List.reduceReplicate]
    (refine run_loopk (b := c29_rrlbo) rfl keep29_2 ?_; simp only [sC, Nat.reduceBEq, Nat.reduceAdd])
    refine rS c29_rrlbol c29_rrlbor rfl ?_
    refine rS c29_rrlboll c29_rrlbolr rfl ?_
    refine run_regionG rfl c29_rrlboll_gs ?_
    simp only [sX, simprocAttr, -List.reduceReplicate, hr4']
    refine call_of (more_tl _ hr4 hw2) ?_
    rintro v H5 ⟨rfl, rfl⟩
    subst hs
    simp only [List.isEmpty_nil]
    simp only [sX, simprocAttr, -List.reduceReplicate]
    refine rF c29_rrlbolrt c29_rrlbolre rfl rfl ?_
    refine run_exit rfl ?_
    simp only [sP, if_true]
    refine rS c29_rrrl c29_rrrr rfl ?_
    refine run_region rfl ?_
    simp only [sX, simprocAttr, -List.reduceReplicate]
    rw [len_snoc] at hn4
    refine call_of (row_2 _ _ _ _ _ _ _ _ _ _ _ _ _ _ _ _ _ _ _ _ _ (by omega) (by omega) (by omega) (by omega) (by omega) (by omega) (by omega) _ true hn4) ?_
    rintro v H5 ⟨rfl, rfl⟩
    unfold pcC
    simp only [sX, simprocAttr, -List.reduceReplicate]
    refine run_ret rfl ?_
    (simp only [sP]; refine ⟨_, (by rw [resultsA_eq Try.results29]; simp only [sR, List.mapM_cons, List.mapM_nil, if_true, Nat.reduceAdd]; rfl), ?_⟩)
    exact got_two hrb hl1 hk1 ht1 (by rw [len_snoc]; omega) (fun b hb hn => getO_snoc hb) (by rw [len_snoc]; omega) (fun b hb hn => hk3 b (by rw [len_snoc] at hb; omega) hn) (by rw [len_snoc]; exact ht3) (by rw [len_snoc]; omega) (by omega) (fun b hb hn => by rw [hk4 b (by omega) hn, getO_snoc hb]) hr4

  · have hrb : rb < H.length := getO_lt hr0
    (refine call_intro fun29 name29 body29 ?_; simp only [Try.ntmps29, List.map_cons, List.map_nil, List.length_cons, List.length_nil, Nat.zero_add, Nat.reduceSub, List.replicate_succ, List.replicate_zero, List.cons_append, List.nil_append])
    refine rS c29_l c29_r rfl ?_
    refine run_region rfl ?_
    simp only [sX, simprocAttr, -List.reduceReplicate]
    refine rS c29_rl c29_rr rfl ?_
    refine run_region rfl ?_
    simp only [sX, simprocAttr, -List.reduceReplicate]
    refine call_of h1 ?_
    rintro v H1 ⟨hl1, hk1, hr1, p1, n1, rfl, ht1⟩
    have hr1' := hr1
    unfold isRd rdC at hr1'
    have hlt1 := getO_lt hr1
    unfold pcC
    simp only [sX, simprocAttr, -List.reduceReplicate]
    refine rS c29_rrl c29_rrr rfl ?_
    refine run_block (b := c29_rrlb) rfl ?_
    (refine run_loopk (b := c29_rrlbo) rfl keep29_2 ?_; simp only [sC, Nat.reduceBEq, Nat.reduceAdd])
    refine rS c29_rrlbol c29_rrlbor rfl ?_
    refine rS c29_rrlboll c29_rrlbolr rfl ?_
    refine run_regionG rfl c29_rrlboll_gs ?_
    simp only [sX, simprocAttr, -List.reduceReplicate, hr1', hlt1]
    refine call_of (more_tl _ (isRd.snoc hr1) hw1) ?_
    rintro v H2 ⟨rfl, rfl⟩
    rw [e1]
    simp only [sX, simprocAttr, -List.reduceReplicate]
    refine call_of (is_tl _ (isRd.snoc hr1) hw1 _) ?_
    rintro v H2 ⟨rfl, rfl⟩
    rw [e2]
    simp only [sX, simprocAttr, -List.reduceReplicate]
    refine call_of (is_tl _ (isRd.snoc hr1) hw1 _) ?_
    rintro v H2 ⟨rfl, rfl⟩
    rw [e3]
    simp only [sX, simprocAttr, -List.reduceReplicate]
    refine rT c29_rrlbolrt c29_rrlbolre rfl rfl ?_
    refine run_skip rfl ?_
    simp only [sP]
    refine run_block (b := c29_rrlborb) rfl ?_
    refine run_region rfl ?_
    simp only [sX, simprocAttr, -List.reduceReplicate]
    refine call_of (h2 _ (isRd.snoc hr1)) ?_
    rintro v H3 ⟨hl3, hk3, hr3, p3, n3, rfl, ht3⟩
    rw [len_snoc] at hl3 hk3 ht3
    have hlt3 := getO_lt hr3
    unfold pcC
    simp only [sX, simprocAttr, -List.reduceReplicate]
    refine append_of el68 sz58 (srcCells_obj getO_append_new rfl) (by decide) (by rw [getO_snoc (by omega), hk3 _ (by omega) (by omega)]; exact getO_append_new) (by split <;> omega) rfl (roomOk_of by58 zr58 sz58 rfl (by decide) (by decide)) rfl rfl ?_
    rintro H4 hl4 hk4 hn4
    rw [len_snoc] at hl4 hk4
    have hr4 : isRd H4 rb s a2 op := by unfold isRd; rw [hk4 rb (by omega) (by omega), getO_snoc (by omega)]; exact hr3
    have hr4' := hr4
    unfold isRd rdC at hr4'
    simp only [sX, simprocAttr, -List.reduceReplicate]
    (refine run_loopk (b := c29_rrlbo) rfl keep29_2 ?_; simp only [sC, Nat.reduceBEq, Nat.reduceAdd])
    refine rS c29_rrlbol c29_rrlbor rfl ?_
    refine rS c29_rrlboll c29_rrlbolr rfl ?_
    refine run_regionG rfl c29_rrlboll_gs ?_
    simp only [sX, simprocAttr, -List.reduceReplicate, hr4']
    refine call_of (more_tl _ hr4 hw2) ?_
    rintro v H5 ⟨rfl, rfl⟩
    rw [hs]
    simp only [sX, simprocAttr, -List.reduceReplicate]
    refine call_of (is_tl _ hr4 hw2 _) ?_
    rintro v H5 ⟨rfl, rfl⟩
    rw [hs']
    simp only [sX, simprocAttr, -List.reduceReplicate]
    refine call_of (is_tl _ hr4 hw2 _) ?_
    rintro v H5 ⟨rfl, rfl⟩
    rw [hs'']
    simp only [sX, simprocAttr, -List.reduceReplicate]
    refine rF c29_rrlbolrt c29_rrlbolre rfl rfl ?_
    refine run_exit rfl ?_
    simp only [sP, if_true]
    refine rS c29_rrrl c29_rrrr rfl ?_
    refine run_region rfl ?_
    simp only [sX, simprocAttr, -List.reduceReplicate]
    rw [len_snoc] at hn4
    refine call_of (row_2 _ _ _ _ _ _ _ _ _ _ _ _ _ _ _ _ _ _ _ _ _ (by omega) (by omega) (by omega) (by omega) (by omega) (by omega) (by omega) _ true hn4) ?_
    rintro v H5 ⟨rfl, rfl⟩
    unfold pcC
    simp only [sX, simprocAttr, -List.reduceReplicate]
    refine run_ret rfl ?_
    (simp only [sP]; refine ⟨_, (by rw [resultsA_eq Try.results29]; simp only [sR, List.mapM_cons, List.mapM_nil, if_true, Nat.reduceAdd]; rfl), ?_⟩)
    exact got_two hrb hl1 hk1 ht1 (by rw [len_snoc]; omega) (fun b hb hn => getO_snoc hb) (by rw [len_snoc]; omega) (fun b hb hn => hk3 b (by rw [len_snoc] at hb; omega) hn) (by rw [len_snoc]; exact ht3) (by rw [len_snoc]; omega) (by omega) (fun b hb hn => by rw [hk4 b (by omega) hn, getO_snoc hb]) hr4

end Go.Proofs.Ytmgofjgfmcmceaa
end
section
namespace Go.Proofs.Ytmgofjgfmcmceaa
open Go.RowKit
set_option maxRecDepth 4000

theorem alt_1 (lim : Nat) (H : Hp) (rb : Nat) (s : ByteArray) (a1 : Nat) (op : Int) (T : Tr) (w : List UInt8)
    (h1 : CallEx X lim 29 [.pointer (some ⟨rb, 0, none⟩)] H (Got H rb s a1 op T)) (hw : tl s a1 = w) (hs : hd w 124 = false) :
    CallEx X lim 22 [.pointer (some ⟨rb, 0, none⟩)] H (Got H rb s a1 op T) := by
  (refine call_intro fun22 name22 body22 ?_; simp only [Try.ntmps22, List.map_cons, List.map_nil, List.length_cons, List.length_nil, Nat.zero_add, Nat.reduceSub, List.replicate_succ, List.replicate_zero, List.cons_append, List.nil_append])
  refine rS c22_l c22_r rfl ?_
  refine run_region rfl ?_
  simp only [sX, simprocAttr, -List.reduceReplicate]
  refine rS c22_rl c22_rr rfl ?_
  refine run_region rfl ?_
  simp only [sX, simprocAttr, -List.reduceReplicate]
  refine call_of h1 ?_
  rintro v H1 ⟨hl1, hk1, hr1, p1, n1, rfl, ht1⟩
  have hr1' := hr1
  unfold isRd rdC at hr1'
  have hlt1 := getO_lt hr1
  unfold pcC
  simp only [sX, simprocAttr, -List.reduceReplicate]
  refine rS c22_rrl c22_rrr rfl ?_
  refine run_block (b := c22_rrlb) rfl ?_
  (refine run_loopk (b := c22_rrlbo) rfl keep22_2 ?_; simp only [sC, Nat.reduceBEq, Nat.reduceAdd])
  refine rS c22_rrlbol c22_rrlbor rfl ?_
  refine rS c22_rrlboll c22_rrlbolr rfl ?_
  refine run_regionG rfl c22_rrlboll_gs ?_
  simp only [sX, simprocAttr, -List.reduceReplicate, hr1', hlt1]
  refine call_of (is_tl _ (isRd.snoc hr1) hw _) ?_
  rintro v H2 ⟨rfl, rfl⟩
  rw [hs]
  simp only [sX, simprocAttr, -List.reduceReplicate]
  refine rF c22_rrlbolrt c22_rrlbolre rfl rfl ?_
  refine run_exit rfl ?_
  simp only [sP, if_true]
  refine rS c22_rrrl c22_rrrr rfl ?_
  refine run_region rfl ?_
  simp only [sX, simprocAttr, -List.reduceReplicate]
  refine call_of (row_1 _ _ _ _ _ _ _ _ _ _ _ _ _ true getO_append_new) ?_
  rintro v H2 ⟨rfl, rfl⟩
  unfold pcC
  simp only [sX, simprocAttr, -List.reduceReplicate]
  refine run_ret rfl ?_
  (simp only [sP]; refine ⟨_, (by rw [resultsA_eq Try.results22]; simp only [sR, List.mapM_cons, List.mapM_nil, if_true, Nat.reduceAdd]; rfl), ?_⟩)
  exact got_snoc hl1 hk1 hr1 ht1

theorem isRd.set {H : Hp} {rb : Nat} {s : ByteArray} {a : Nat} {op : Int} (h : rb < H.length) : isRd (H.set rb (some ⟨true, 0, rdC s a op 0 0⟩)) rb s a op := getO_set_self h

theorem alt_2 (lim : Nat) (H : Hp) (rb : Nat) (s : ByteArray) (a0 a1 a2 : Nat) (op : Int) (T1 T2 : Tr) (w1 w2 : List UInt8) (hlim : lim ≤ rb) (hr0 : isRd H rb s a0 op)
    (h1 : CallEx X lim 29 [.pointer (some ⟨rb, 0, none⟩)] H (Got H rb s a1 op T1)) (hw1 : tl s a1 = 124 :: w1) (hsz : a1 + 1 < 9223372036854775808)
    (h2 : ∀ H, isRd H rb s (a1 + 1) op → CallEx X lim 29 [.pointer (some ⟨rb, 0, none⟩)] H (Got H rb s a2 op T2)) (hw2 : tl s a2 = w2) (hs : hd w2 124 = false)
    (d1 : T1.dp + 1 ≤ 40) (d2 : T2.dp ≤ 40) (d3 : T1.lv + T2.lv ≤ 400) :
    CallEx X lim 22 [.pointer (some ⟨rb, 0, none⟩)] H (Got H rb s a2 op (.node 3 S4.z [T1, T2])) := by
  have q1 := T1.dp_pos
  have q2 := T2.dp_pos
  have q3 := T1.lv_pos
  have q4 := T2.lv_pos
  have hrb : rb < H.length := getO_lt hr0
  have hi : IntKind.i64.wrap ((a1 : Int) + 1) = ((a1 + 1 : Nat) : Int) := by rw [IntWalk.i64_in _ (by omega)]; omega
  (refine call_intro fun22 name22 body22 ?_; simp only [Try.ntmps22, List.map_cons, List.map_nil, List.length_cons, List.length_nil, Nat.zero_add, Nat.reduceSub, List.replicate_succ, List.replicate_zero, List.cons_append, List.nil_append])
  refine rS c22_l c22_r rfl ?_
  refine run_region rfl ?_
  simp only [sX, simprocAttr, -List.reduceReplicate]
  refine rS c22_rl c22_rr rfl ?_
  refine run_region rfl ?_
  simp only [sX, simprocAttr, -List.reduceReplicate]
  refine call_of h1 ?_
  rintro v H1 ⟨hl1, hk1, hr1, p1, n1, rfl, ht1⟩
  have hr1' := hr1
  unfold isRd rdC at hr1'
  have hlt1 := getO_lt hr1
  have hll : lim ≤ rb := hlim
  unfold pcC
  simp only [sX, simprocAttr, -List.reduceReplicate, pur22]
  refine rS c22_rrl c22_rrr rfl ?_
  refine run_block (b := c22_rrlb) rfl ?_
  (refine run_loopk (b := c22_rrlbo) rfl keep22_2 ?_; simp only [sC, Nat.reduceBEq, Nat.reduceAdd])
  refine rS c22_rrlbol c22_rrlbor rfl ?_
  refine rS c22_rrlboll c22_rrlbolr rfl ?_
  refine run_regionG rfl c22_rrlboll_gs ?_
  simp only [sX, simprocAttr, -List.reduceReplicate, hr1', hlt1]
  refine call_of (is_tl _ (isRd.snoc hr1) hw1 _) ?_
  rintro v H2 ⟨rfl, rfl⟩
  simp only [hd, UInt8.reduceToNat, Int.cast_ofNat_Int]
  simp only [sX, simprocAttr, -List.reduceReplicate]
  refine rT c22_rrlbolrt c22_rrlbolre rfl rfl ?_
  refine run_skip rfl ?_
  simp only [sP]
  refine run_block (b := c22_rrlborb) rfl ?_
  refine rS c22_rrlborbl c22_rrlborbr rfl ?_
  refine run_region rfl ?_
  simp only [sX, simprocAttr, -List.reduceReplicate, hr1', hlt1, hll, hi]
  refine run_region rfl ?_
  simp only [sX, simprocAttr, -List.reduceReplicate]
  refine call_of (h2 _ (isRd.set (by rw [len_snoc]; omega))) ?_
  rintro v H3 ⟨hl3, hk3, hr3, p3, n3, rfl, ht3⟩
  rw [List.length_set, len_snoc] at hl3 hk3 ht3
  have hlt3 := getO_lt hr3
  unfold pcC
  simp only [sX, simprocAttr, -List.reduceReplicate]
  refine append_of el68 sz58 (srcCells_obj getO_append_new rfl) (by decide) (by rw [getO_snoc (by omega), hk3 _ (by omega) (by omega), getO_set_ne (by omega)]; exact getO_append_new) (by omega) rfl (roomOk_of by58 zr58 sz58 rfl (by decide) (by decide)) rfl rfl ?_
  rintro H4 hl4 hk4 hn4
  rw [len_snoc] at hl4 hk4
  have hr4 : isRd H4 rb s a2 op := by unfold isRd; rw [hk4 rb (by omega) (by omega), getO_snoc (by omega)]; exact hr3
  have hr4' := hr4
  unfold isRd rdC at hr4'
  simp only [sX, simprocAttr, -List.reduceReplicate]
  (refine run_loopk (b := c22_rrlbo) rfl keep22_2 ?_; simp only [sC, Nat.reduceBEq, Nat.reduceAdd])
  refine rS c22_rrlbol c22_rrlbor rfl ?_
  refine rS c22_rrlboll c22_rrlbolr rfl ?_
  refine run_regionG rfl c22_rrlboll_gs ?_
  simp only [sX, simprocAttr, -List.reduceReplicate, hr4']
  refine call_of (is_tl _ hr4 hw2 _) ?_
  rintro v H5 ⟨rfl, rfl⟩
  rw [hs]
  simp only [sX, simprocAttr, -List.reduceReplicate]
  refine rF c22_rrlbolrt c22_rrlbolre rfl rfl ?_
  refine run_exit rfl ?_
  simp only [sP, if_true]
  refine rS c22_rrrl c22_rrrr rfl ?_
  refine run_region rfl ?_
  simp only [sX, simprocAttr, -List.reduceReplicate]
  rw [len_snoc] at hn4
  refine call_of (row_2 _ _ _ _ _ _ _ _ _ _ _ _ _ _ _ _ _ _ _ _ _ (by omega) (by omega) (by omega) (by omega) (by omega) (by omega) (by omega) _ true hn4) ?_
  rintro v H5 ⟨rfl, rfl⟩
  unfold pcC
  simp only [sX, simprocAttr, -List.reduceReplicate]
  refine run_ret rfl ?_
  (simp only [sP]; refine ⟨_, (by rw [resultsA_eq Try.results22]; simp only [sR, List.mapM_cons, List.mapM_nil, if_true, Nat.reduceAdd]; rfl), ?_⟩)
  exact got_two hrb hl1 hk1 ht1 (by rw [List.length_set, len_snoc]; omega) (fun b hb hn => by rw [getO_set_ne hn, getO_snoc hb]) (by rw [List.length_set, len_snoc]; omega) (fun b hb hn => hk3 b (by rw [List.length_set, len_snoc] at hb; omega) hn) (by rw [List.length_set, len_snoc]; exact ht3) (by rw [List.length_set, len_snoc]; omega) (by omega) (fun b hb hn => by rw [hk4 b (by omega) hn, getO_snoc hb]) hr4
end Go.Proofs.Ytmgofjgfmcmceaa
end
section
namespace Go.Proofs.Ytmgofjgfmcmceaa
open Go.RowKit
set_option maxRecDepth 4000

/-- No sign stands ahead. -/
def quiet (w : List UInt8) : Prop := w = [] ∨ ∃ c r, w = c :: r ∧ decide ((c.toNat : Int) = 42) = false ∧ decide ((c.toNat : Int) = 43) = false ∧ decide ((c.toNat : Int) = 63) = false ∧ decide ((c.toNat : Int) = 123) = false
theorem Got.at_eq {H H1 : Hp} {rb : Nat} {s : ByteArray} {a : Nat} {op : Int} {T : Tr} {p : Option Addr} {n : Nat} (h1 : H.length ≤ H1.length) (h2 : ∀ b, b < H.length → b ≠ rb → getO H1 b = getO H b) (h3 : isRd H1 rb s a op)
    (h4 : IsRe H1 (fun b => H.length ≤ b) T (reC T.k T.s p n)) : Got H rb s a op T (pcC T.k T.s.a.toNat T.s.b.toNat T.s.c.toNat T.s.d.toNat p n T.dp T.lv) H1 := ⟨h1, h2, h3, p, n, rfl, h4⟩

theorem got_one {H H1 : Hp} {rb : Nat} {s : ByteArray} {a1 a2 : Nat} {op : Int} {T : Tr} {p : Option Addr} {n : Nat} {kd : Int} (hrb : rb < H.length) (h1 : H.length ≤ H1.length) (k1 : ∀ b, b < H.length → b ≠ rb → getO H1 b = getO H b) (_hr : isRd H1 rb s a1 op) (t1 : IsRe H1 (fun b => H.length ≤ b) T (reC T.k T.s p n)) :
    Got H rb s a2 op (.node kd S4.z [T]) (pcC kd 0 0 0 0 (some ⟨H1.length, 0, none⟩) 1 (T.dp + 1) T.lv) ((H1 ++ [some ⟨true, 6, [.int .i64 T.k, .int .u64 T.s.a.toNat, .int .u64 T.s.b.toNat, .int .u64 T.s.c.toNat, .int .u64 T.s.d.toNat, .slice p n n]⟩] : Hp).set rb (some ⟨true, 0, rdC s a2 op 0 0⟩)) := by
  refine ⟨by rw [List.length_set, len_snoc]; omega, fun b hb hn => ?_, isRd.set (by rw [len_snoc]; omega), _, 1, rfl, ?_⟩
  · rw [getO_set_ne hn, getO_snoc (by omega), k1 b hb hn]
  · refine IsRe.cons kd S4.z [T] H1.length true [reC T.k T.s p n] (by simp) (by omega) rfl (by rw [getO_set_ne (by omega)]; exact getO_append_new) ?_
    intro i hi hi'
    match i, hi, hi' with
    | 0, _, _ =>
      refine t1.mono2 (fun _ h => h) fun b hb hlt => ?_
      rw [getO_set_ne (by omega), getO_snoc hlt]

theorem piece_0 (lim : Nat) (H : Hp) (rb : Nat) (s : ByteArray) (a1 : Nat) (op : Int) (T : Tr) (w : List UInt8)
    (h1 : CallEx X lim 42 [.pointer (some ⟨rb, 0, none⟩)] H (Got H rb s a1 op T)) (hw : tl s a1 = w) (hq : quiet w) :
    CallEx X lim 39 [.pointer (some ⟨rb, 0, none⟩)] H (Got H rb s a1 op T) := by
  rcases hq with rfl | ⟨c, r, rfl, e1, e2, e3, e4⟩
  · (refine call_intro fun39 name39 body39 ?_; simp only [Try.ntmps39, List.map_cons, List.map_nil, List.length_cons, List.length_nil, Nat.zero_add, Nat.reduceSub, List.replicate_succ, List.replicate_zero, List.cons_append, List.nil_append])
    refine rS c39_l c39_r rfl ?_
    refine run_region rfl ?_
    simp only [sX, simprocAttr, -List.reduceReplicate]
    refine rS c39_rl c39_rr rfl ?_
    refine run_region rfl ?_
    simp only [sX, simprocAttr, -List.reduceReplicate]
    refine call_of h1 ?_
    rintro v H1 ⟨hl1, hk1, hr1, p1, n1, rfl, ht1⟩
    have hr1' := hr1
    unfold isRd rdC at hr1'
    have hlt1 := getO_lt hr1
    have hl2 : rb < H1.length + 1 := by omega
    unfold pcC
    simp only [sX, simprocAttr, -List.reduceReplicate, pur39]
    refine rS c39_rrl c39_rrr rfl ?_
    refine run_block (b := c39_rrlb) rfl ?_
    (refine run_loopk (b := c39_rrlbo) rfl keep39_2 ?_; simp only [sC, Nat.reduceBEq, Nat.reduceAdd])
    refine rS c39_rrlbol c39_rrlbor rfl ?_
    refine rS c39_rrlboll c39_rrlbolr rfl ?_
    refine run_regionG rfl c39_rrlboll_gs ?_
    simp only [sX, simprocAttr, -List.reduceReplicate, hr1']
    refine call_of (more_tl _ hr1 hw) ?_
    rintro v H1 ⟨rfl, rfl⟩
    simp only [List.isEmpty_nil]
    simp only [sX, simprocAttr, -List.reduceReplicate]
    refine rF c39_rrlbolrt c39_rrlbolre rfl rfl ?_
    refine run_exit rfl ?_
    simp only [sP, if_true]
    refine rS c39_rrrl c39_rrrr rfl ?_
    refine run_region rfl ?_
    simp only [sX, simprocAttr, -List.reduceReplicate]
    refine run_ret rfl ?_
    (simp only [sP]; refine ⟨_, (by rw [resultsA_eq Try.results39]; simp only [sR, List.mapM_cons, List.mapM_nil, if_true, Nat.reduceAdd]; rfl), ?_⟩)
    exact Got.at_eq hl1 hk1 hr1 ht1

  · (refine call_intro fun39 name39 body39 ?_; simp only [Try.ntmps39, List.map_cons, List.map_nil, List.length_cons, List.length_nil, Nat.zero_add, Nat.reduceSub, List.replicate_succ, List.replicate_zero, List.cons_append, List.nil_append])
    refine rS c39_l c39_r rfl ?_
    refine run_region rfl ?_
    simp only [sX, simprocAttr, -List.reduceReplicate]
    refine rS c39_rl c39_rr rfl ?_
    refine run_region rfl ?_
    simp only [sX, simprocAttr, -List.reduceReplicate]
    refine call_of h1 ?_
    rintro v H1 ⟨hl1, hk1, hr1, p1, n1, rfl, ht1⟩
    have hr1' := hr1
    unfold isRd rdC at hr1'
    have hlt1 := getO_lt hr1
    have hl2 : rb < H1.length + 1 := by omega
    unfold pcC
    simp only [sX, simprocAttr, -List.reduceReplicate, pur39]
    refine rS c39_rrl c39_rrr rfl ?_
    refine run_block (b := c39_rrlb) rfl ?_
    (refine run_loopk (b := c39_rrlbo) rfl keep39_2 ?_; simp only [sC, Nat.reduceBEq, Nat.reduceAdd])
    refine rS c39_rrlbol c39_rrlbor rfl ?_
    refine rS c39_rrlboll c39_rrlbolr rfl ?_
    refine run_regionG rfl c39_rrlboll_gs ?_
    simp only [sX, simprocAttr, -List.reduceReplicate, hr1']
    refine call_of (more_tl _ hr1 hw) ?_
    rintro v H1 ⟨rfl, rfl⟩
    simp only [List.isEmpty_cons]
    simp only [sX, simprocAttr, -List.reduceReplicate]
    refine rT c39_rrlbolrt c39_rrlbolre rfl rfl ?_
    refine run_skip rfl ?_
    simp only [sP]
    refine run_block (b := c39_rrlborb) rfl ?_
    refine rS c39_rrlborbl c39_rrlborbr rfl ?_
    refine run_draw rfl c39_rrlborbl_ok c39_rrlborbl_dr ?_
    simp only [sX, simprocAttr, -List.reduceReplicate, hr1', hlt1, strIx_cons hw]
    refine run_block (b := c39_rrlborbrb) rfl ?_
    refine rS c39_rrlborbrbl c39_rrlborbrbr rfl ?_
    refine run_region rfl ?_
    simp only [sX, simprocAttr, -List.reduceReplicate, e1]
    refine rF c39_rrlborbrbrt c39_rrlborbrbre rfl rfl ?_
    refine rS c39_rrlborbrbrel c39_rrlborbrbrer rfl ?_
    refine run_region rfl ?_
    simp only [sX, simprocAttr, -List.reduceReplicate, e2]
    refine rF c39_rrlborbrbrert c39_rrlborbrbrere rfl rfl ?_
    refine rS c39_rrlborbrbrerel c39_rrlborbrbrerer rfl ?_
    refine run_region rfl ?_
    simp only [sX, simprocAttr, -List.reduceReplicate, e3]
    refine rF c39_rrlborbrbrerert c39_rrlborbrbrerere rfl rfl ?_
    refine rS c39_rrlborbrbrererel c39_rrlborbrbrererer rfl ?_
    refine run_region rfl ?_
    simp only [sX, simprocAttr, -List.reduceReplicate, e4]
    refine rF c39_rrlborbrbrererert c39_rrlborbrbrererere rfl rfl ?_
    refine rS c39_rrlborbrbrerererel c39_rrlborbrbrerererer rfl ?_
    refine run_region rfl ?_
    simp only [sX, simprocAttr, -List.reduceReplicate]
    refine run_ret rfl ?_
    (simp only [sP]; refine ⟨_, (by rw [resultsA_eq Try.results39]; simp only [sR, List.mapM_cons, List.mapM_nil, if_true, Nat.reduceAdd]; rfl), ?_⟩)
    exact Got.at_eq hl1 hk1 hr1 ht1

theorem piece_1 (lim : Nat) (H : Hp) (rb : Nat) (s : ByteArray) (a0 a1 : Nat) (op : Int) (T : Tr) (w : List UInt8) (hlim : lim ≤ rb) (hr0 : isRd H rb s a0 op)
    (h1 : CallEx X lim 42 [.pointer (some ⟨rb, 0, none⟩)] H (Got H rb s a1 op T)) (hw : tl s a1 = 42 :: w) (hq : quiet w) (hsz : a1 + 1 < 9223372036854775808) (d1 : T.dp + 1 ≤ 40) (d2 : T.lv ≤ 400) :
    CallEx X lim 39 [.pointer (some ⟨rb, 0, none⟩)] H (Got H rb s (a1 + 1) op (.node 4 S4.z [T])) := by
  have q1 := T.dp_pos
  have hrb : rb < H.length := getO_lt hr0
  have hi : IntKind.i64.wrap ((a1 : Int) + 1) = ((a1 + 1 : Nat) : Int) := by rw [IntWalk.i64_in _ (by omega)]; omega
  have hw' := (tl_cons hw).2.2
  have f1 : decide (((42 : UInt8).toNat : Int) = 42) = true := by decide
  have f2 : decide (((42 : UInt8).toNat : Int) = 43) = false := by decide
  have f3 : decide (((42 : UInt8).toNat : Int) = 63) = false := by decide
  rcases hq with rfl | ⟨c, r, rfl, e1, e2, e3, e4⟩
  · (refine call_intro fun39 name39 body39 ?_; simp only [Try.ntmps39, List.map_cons, List.map_nil, List.length_cons, List.length_nil, Nat.zero_add, Nat.reduceSub, List.replicate_succ, List.replicate_zero, List.cons_append, List.nil_append])
    refine rS c39_l c39_r rfl ?_
    refine run_region rfl ?_
    simp only [sX, simprocAttr, -List.reduceReplicate]
    refine rS c39_rl c39_rr rfl ?_
    refine run_region rfl ?_
    simp only [sX, simprocAttr, -List.reduceReplicate]
    refine call_of h1 ?_
    rintro v H1 ⟨hl1, hk1, hr1, p1, n1, rfl, ht1⟩
    have hr1' := hr1
    unfold isRd rdC at hr1'
    have hlt1 := getO_lt hr1
    have hl2 : rb < H1.length + 1 := by omega
    unfold pcC
    simp only [sX, simprocAttr, -List.reduceReplicate, pur39]
    refine rS c39_rrl c39_rrr rfl ?_
    refine run_block (b := c39_rrlb) rfl ?_
    (refine run_loopk (b := c39_rrlbo) rfl keep39_2 ?_; simp only [sC, Nat.reduceBEq, Nat.reduceAdd])
    refine rS c39_rrlbol c39_rrlbor rfl ?_
    refine rS c39_rrlboll c39_rrlbolr rfl ?_
    refine run_regionG rfl c39_rrlboll_gs ?_
    simp only [sX, simprocAttr, -List.reduceReplicate, hr1']
    refine call_of (more_tl _ hr1 hw) ?_
    rintro v H1 ⟨rfl, rfl⟩
    simp only [List.isEmpty_cons]
    simp only [sX, simprocAttr, -List.reduceReplicate]
    refine rT c39_rrlbolrt c39_rrlbolre rfl rfl ?_
    refine run_skip rfl ?_
    simp only [sP]
    refine run_block (b := c39_rrlborb) rfl ?_
    refine rS c39_rrlborbl c39_rrlborbr rfl ?_
    refine run_draw rfl c39_rrlborbl_ok c39_rrlborbl_dr ?_
    simp only [sX, simprocAttr, -List.reduceReplicate, hr1', hlt1, strIx_cons hw]
    refine run_block (b := c39_rrlborbrb) rfl ?_
    refine rS c39_rrlborbrbl c39_rrlborbrbr rfl ?_
    refine run_region rfl ?_
    simp only [sX, simprocAttr, -List.reduceReplicate]
    refine rT c39_rrlborbrbrt c39_rrlborbrbre rfl rfl ?_
    refine rS c39_rrlborbrbrtl c39_rrlborbrbrtr rfl ?_
    refine run_region rfl ?_
    simp only [sX, simprocAttr, -List.reduceReplicate]
    refine call_of (one_ok _ _ _ _ _ _ _ _ _ _ _ _ _ (by omega) (by omega) (by omega)) ?_
    rintro v H2 ⟨rfl, rfl⟩
    simp only [sX, simprocAttr, -List.reduceReplicate]
    refine run_region rfl ?_
    simp only [sX, simprocAttr, -List.reduceReplicate, hr1', hlt1, hlim, hi]
    (refine run_loopk (b := c39_rrlbo) rfl keep39_2 ?_; simp only [sC, Nat.reduceBEq, Nat.reduceAdd])
    refine rS c39_rrlbol c39_rrlbor rfl ?_
    refine rS c39_rrlboll c39_rrlbolr rfl ?_
    refine run_regionG rfl c39_rrlboll_gs ?_
    simp only [sX, simprocAttr, -List.reduceReplicate, hl2]
    have hr2 : ∀ x, isRd ((H1 ++ [x]).set rb (some ⟨true, 0, rdC s (a1 + 1 : Nat) op 0 0⟩)) rb s (a1 + 1) op := fun x => isRd.set (by rw [len_snoc]; omega)
    refine call_of (more_tl _ (hr2 _) hw') ?_
    rintro v H2 ⟨rfl, rfl⟩
    simp only [List.isEmpty_nil]
    simp only [sX, simprocAttr, -List.reduceReplicate]
    refine rF c39_rrlbolrt c39_rrlbolre rfl rfl ?_
    refine run_exit rfl ?_
    simp only [sP, if_true]
    refine rS c39_rrrl c39_rrrr rfl ?_
    refine run_region rfl ?_
    simp only [sX, simprocAttr, -List.reduceReplicate]
    refine run_ret rfl ?_
    (simp only [sP]; refine ⟨_, (by rw [resultsA_eq Try.results39]; simp only [sR, List.mapM_cons, List.mapM_nil, if_true, Nat.reduceAdd]; rfl), ?_⟩)
    exact got_one hrb hl1 hk1 hr1 ht1

  · (refine call_intro fun39 name39 body39 ?_; simp only [Try.ntmps39, List.map_cons, List.map_nil, List.length_cons, List.length_nil, Nat.zero_add, Nat.reduceSub, List.replicate_succ, List.replicate_zero, List.cons_append, List.nil_append])
    refine rS c39_l c39_r rfl ?_
    refine run_region rfl ?_
    simp only [sX, simprocAttr, -List.reduceReplicate]
    refine rS c39_rl c39_rr rfl ?_
    refine run_region rfl ?_
    simp only [sX, simprocAttr, -List.reduceReplicate]
    refine call_of h1 ?_
    rintro v H1 ⟨hl1, hk1, hr1, p1, n1, rfl, ht1⟩
    have hr1' := hr1
    unfold isRd rdC at hr1'
    have hlt1 := getO_lt hr1
    have hl2 : rb < H1.length + 1 := by omega
    unfold pcC
    simp only [sX, simprocAttr, -List.reduceReplicate, pur39]
    refine rS c39_rrl c39_rrr rfl ?_
    refine run_block (b := c39_rrlb) rfl ?_
    (refine run_loopk (b := c39_rrlbo) rfl keep39_2 ?_; simp only [sC, Nat.reduceBEq, Nat.reduceAdd])
    refine rS c39_rrlbol c39_rrlbor rfl ?_
    refine rS c39_rrlboll c39_rrlbolr rfl ?_
    refine run_regionG rfl c39_rrlboll_gs ?_
    simp only [sX, simprocAttr, -List.reduceReplicate, hr1']
    refine call_of (more_tl _ hr1 hw) ?_
    rintro v H1 ⟨rfl, rfl⟩
    simp only [List.isEmpty_cons]
    simp only [sX, simprocAttr, -List.reduceReplicate]
    refine rT c39_rrlbolrt c39_rrlbolre rfl rfl ?_
    refine run_skip rfl ?_
    simp only [sP]
    refine run_block (b := c39_rrlborb) rfl ?_
    refine rS c39_rrlborbl c39_rrlborbr rfl ?_
    refine run_draw rfl c39_rrlborbl_ok c39_rrlborbl_dr ?_
    simp only [sX, simprocAttr, -List.reduceReplicate, hr1', hlt1, strIx_cons hw]
    refine run_block (b := c39_rrlborbrb) rfl ?_
    refine rS c39_rrlborbrbl c39_rrlborbrbr rfl ?_
    refine run_region rfl ?_
    simp only [sX, simprocAttr, -List.reduceReplicate]
    refine rT c39_rrlborbrbrt c39_rrlborbrbre rfl rfl ?_
    refine rS c39_rrlborbrbrtl c39_rrlborbrbrtr rfl ?_
    refine run_region rfl ?_
    simp only [sX, simprocAttr, -List.reduceReplicate]
    refine call_of (one_ok _ _ _ _ _ _ _ _ _ _ _ _ _ (by omega) (by omega) (by omega)) ?_
    rintro v H2 ⟨rfl, rfl⟩
    simp only [sX, simprocAttr, -List.reduceReplicate]
    refine run_region rfl ?_
    simp only [sX, simprocAttr, -List.reduceReplicate, hr1', hlt1, hlim, hi]
    (refine run_loopk (b := c39_rrlbo) rfl keep39_2 ?_; simp only [sC, Nat.reduceBEq, Nat.reduceAdd])
    refine rS c39_rrlbol c39_rrlbor rfl ?_
    refine rS c39_rrlboll c39_rrlbolr rfl ?_
    refine run_regionG rfl c39_rrlboll_gs ?_
    simp only [sX, simprocAttr, -List.reduceReplicate, hl2]
    have hr2 : ∀ x, isRd ((H1 ++ [x]).set rb (some ⟨true, 0, rdC s (a1 + 1 : Nat) op 0 0⟩)) rb s (a1 + 1) op := fun x => isRd.set (by rw [len_snoc]; omega)
    refine call_of (more_tl _ (hr2 _) hw') ?_
    rintro v H2 ⟨rfl, rfl⟩
    simp only [List.isEmpty_cons]
    simp only [sX, simprocAttr, -List.reduceReplicate]
    refine rT c39_rrlbolrt c39_rrlbolre rfl rfl ?_
    refine run_skip rfl ?_
    simp only [sP]
    refine run_block (b := c39_rrlborb) rfl ?_
    refine rS c39_rrlborbl c39_rrlborbr rfl ?_
    refine run_draw rfl c39_rrlborbl_ok c39_rrlborbl_dr ?_
    simp only [sX, simprocAttr, -List.reduceReplicate, hl2, strIx_cons hw']
    refine run_block (b := c39_rrlborbrb) rfl ?_
    refine rS c39_rrlborbrbl c39_rrlborbrbr rfl ?_
    refine run_region rfl ?_
    simp only [sX, simprocAttr, -List.reduceReplicate, e1]
    refine rF c39_rrlborbrbrt c39_rrlborbrbre rfl rfl ?_
    refine rS c39_rrlborbrbrel c39_rrlborbrbrer rfl ?_
    refine run_region rfl ?_
    simp only [sX, simprocAttr, -List.reduceReplicate, e2]
    refine rF c39_rrlborbrbrert c39_rrlborbrbrere rfl rfl ?_
    refine rS c39_rrlborbrbrerel c39_rrlborbrbrerer rfl ?_
    refine run_region rfl ?_
    simp only [sX, simprocAttr, -List.reduceReplicate, e3]
    refine rF c39_rrlborbrbrerert c39_rrlborbrbrerere rfl rfl ?_
    refine rS c39_rrlborbrbrererel c39_rrlborbrbrererer rfl ?_
    refine run_region rfl ?_
    simp only [sX, simprocAttr, -List.reduceReplicate, e4]
    refine rF c39_rrlborbrbrererert c39_rrlborbrbrererere rfl rfl ?_
    refine rS c39_rrlborbrbrerererel c39_rrlborbrbrerererer rfl ?_
    refine run_region rfl ?_
    simp only [sX, simprocAttr, -List.reduceReplicate]
    refine run_ret rfl ?_
    (simp only [sP]; refine ⟨_, (by rw [resultsA_eq Try.results39]; simp only [sR, List.mapM_cons, List.mapM_nil, if_true, Nat.reduceAdd]; rfl), ?_⟩)
    exact got_one hrb hl1 hk1 hr1 ht1

theorem piece_2 (lim : Nat) (H : Hp) (rb : Nat) (s : ByteArray) (a0 a1 : Nat) (op : Int) (T : Tr) (w : List UInt8) (hlim : lim ≤ rb) (hr0 : isRd H rb s a0 op)
    (h1 : CallEx X lim 42 [.pointer (some ⟨rb, 0, none⟩)] H (Got H rb s a1 op T)) (hw : tl s a1 = 43 :: w) (hq : quiet w) (hsz : a1 + 1 < 9223372036854775808) (d1 : T.dp + 1 ≤ 40) (d2 : T.lv ≤ 400) :
    CallEx X lim 39 [.pointer (some ⟨rb, 0, none⟩)] H (Got H rb s (a1 + 1) op (.node 5 S4.z [T])) := by
  have q1 := T.dp_pos
  have hrb : rb < H.length := getO_lt hr0
  have hi : IntKind.i64.wrap ((a1 : Int) + 1) = ((a1 + 1 : Nat) : Int) := by rw [IntWalk.i64_in _ (by omega)]; omega
  have hw' := (tl_cons hw).2.2
  have f1 : decide (((43 : UInt8).toNat : Int) = 42) = false := by decide
  have f2 : decide (((43 : UInt8).toNat : Int) = 43) = true := by decide
  have f3 : decide (((43 : UInt8).toNat : Int) = 63) = false := by decide
  rcases hq with rfl | ⟨c, r, rfl, e1, e2, e3, e4⟩
  · (refine call_intro fun39 name39 body39 ?_; simp only [Try.ntmps39, List.map_cons, List.map_nil, List.length_cons, List.length_nil, Nat.zero_add, Nat.reduceSub, List.replicate_succ, List.replicate_zero, List.cons_append, List.nil_append])
    refine rS c39_l c39_r rfl ?_
    refine run_region rfl ?_
    simp only [sX, simprocAttr, -List.reduceReplicate]
    refine rS c39_rl c39_rr rfl ?_
    refine run_region rfl ?_
    simp only [sX, simprocAttr, -List.reduceReplicate]
    refine call_of h1 ?_
    rintro v H1 ⟨hl1, hk1, hr1, p1, n1, rfl, ht1⟩
    have hr1' := hr1
    unfold isRd rdC at hr1'
    have hlt1 := getO_lt hr1
    have hl2 : rb < H1.length + 1 := by omega
    unfold pcC
    simp only [sX, simprocAttr, -List.reduceReplicate, pur39]
    refine rS c39_rrl c39_rrr rfl ?_
    refine run_block (b := c39_rrlb) rfl ?_
    (refine run_loopk (b := c39_rrlbo) rfl keep39_2 ?_; simp only [sC, Nat.reduceBEq, Nat.reduceAdd])
    refine rS c39_rrlbol c39_rrlbor rfl ?_
    refine rS c39_rrlboll c39_rrlbolr rfl ?_
    refine run_regionG rfl c39_rrlboll_gs ?_
    simp only [sX, simprocAttr, -List.reduceReplicate, hr1']
    refine call_of (more_tl _ hr1 hw) ?_
    rintro v H1 ⟨rfl, rfl⟩
    simp only [List.isEmpty_cons]
    simp only [sX, simprocAttr, -List.reduceReplicate]
    refine rT c39_rrlbolrt c39_rrlbolre rfl rfl ?_
    refine run_skip rfl ?_
    simp only [sP]
    refine run_block (b := c39_rrlborb) rfl ?_
    refine rS c39_rrlborbl c39_rrlborbr rfl ?_
    refine run_draw rfl c39_rrlborbl_ok c39_rrlborbl_dr ?_
    simp only [sX, simprocAttr, -List.reduceReplicate, hr1', hlt1, strIx_cons hw]
    refine run_block (b := c39_rrlborbrb) rfl ?_
    refine rS c39_rrlborbrbl c39_rrlborbrbr rfl ?_
    refine run_region rfl ?_
    simp only [sX, simprocAttr, -List.reduceReplicate]
    refine rF c39_rrlborbrbrt c39_rrlborbrbre rfl rfl ?_
    refine rS c39_rrlborbrbrel c39_rrlborbrbrer rfl ?_
    refine run_region rfl ?_
    simp only [sX, simprocAttr, -List.reduceReplicate]
    refine rT c39_rrlborbrbrert c39_rrlborbrbrere rfl rfl ?_
    refine rS c39_rrlborbrbrertl c39_rrlborbrbrertr rfl ?_
    refine run_region rfl ?_
    simp only [sX, simprocAttr, -List.reduceReplicate]
    refine call_of (one_ok _ _ _ _ _ _ _ _ _ _ _ _ _ (by omega) (by omega) (by omega)) ?_
    rintro v H2 ⟨rfl, rfl⟩
    simp only [sX, simprocAttr, -List.reduceReplicate]
    refine run_region rfl ?_
    simp only [sX, simprocAttr, -List.reduceReplicate, hr1', hlt1, hlim, hi]
    (refine run_loopk (b := c39_rrlbo) rfl keep39_2 ?_; simp only [sC, Nat.reduceBEq, Nat.reduceAdd])
    refine rS c39_rrlbol c39_rrlbor rfl ?_
    refine rS c39_rrlboll c39_rrlbolr rfl ?_
    refine run_regionG rfl c39_rrlboll_gs ?_
    simp only [sX, simprocAttr, -List.reduceReplicate, hl2]
    have hr2 : ∀ x, isRd ((H1 ++ [x]).set rb (some ⟨true, 0, rdC s (a1 + 1 : Nat) op 0 0⟩)) rb s (a1 + 1) op := fun x => isRd.set (by rw [len_snoc]; omega)
    refine call_of (more_tl _ (hr2 _) hw') ?_
    rintro v H2 ⟨rfl, rfl⟩
    simp only [List.isEmpty_nil]
    simp only [sX, simprocAttr, -List.reduceReplicate]
    refine rF c39_rrlbolrt c39_rrlbolre rfl rfl ?_
    refine run_exit rfl ?_
    simp only [sP, if_true]
    refine rS c39_rrrl c39_rrrr rfl ?_
    refine run_region rfl ?_
    simp only [sX, simprocAttr, -List.reduceReplicate]
    refine run_ret rfl ?_
    (simp only [sP]; refine ⟨_, (by rw [resultsA_eq Try.results39]; simp only [sR, List.mapM_cons, List.mapM_nil, if_true, Nat.reduceAdd]; rfl), ?_⟩)
    exact got_one hrb hl1 hk1 hr1 ht1

  · (refine call_intro fun39 name39 body39 ?_; simp only [Try.ntmps39, List.map_cons, List.map_nil, List.length_cons, List.length_nil, Nat.zero_add, Nat.reduceSub, List.replicate_succ, List.replicate_zero, List.cons_append, List.nil_append])
    refine rS c39_l c39_r rfl ?_
    refine run_region rfl ?_
    simp only [sX, simprocAttr, -List.reduceReplicate]
    refine rS c39_rl c39_rr rfl ?_
    refine run_region rfl ?_
    simp only [sX, simprocAttr, -List.reduceReplicate]
    refine call_of h1 ?_
    rintro v H1 ⟨hl1, hk1, hr1, p1, n1, rfl, ht1⟩
    have hr1' := hr1
    unfold isRd rdC at hr1'
    have hlt1 := getO_lt hr1
    have hl2 : rb < H1.length + 1 := by omega
    unfold pcC
    simp only [sX, simprocAttr, -List.reduceReplicate, pur39]
    refine rS c39_rrl c39_rrr rfl ?_
    refine run_block (b := c39_rrlb) rfl ?_
    (refine run_loopk (b := c39_rrlbo) rfl keep39_2 ?_; simp only [sC, Nat.reduceBEq, Nat.reduceAdd])
    refine rS c39_rrlbol c39_rrlbor rfl ?_
    refine rS c39_rrlboll c39_rrlbolr rfl ?_
    refine run_regionG rfl c39_rrlboll_gs ?_
    simp only [sX, simprocAttr, -List.reduceReplicate, hr1']
    refine call_of (more_tl _ hr1 hw) ?_
    rintro v H1 ⟨rfl, rfl⟩
    simp only [List.isEmpty_cons]
    simp only [sX, simprocAttr, -List.reduceReplicate]
    refine rT c39_rrlbolrt c39_rrlbolre rfl rfl ?_
    refine run_skip rfl ?_
    simp only [sP]
    refine run_block (b := c39_rrlborb) rfl ?_
    refine rS c39_rrlborbl c39_rrlborbr rfl ?_
    refine run_draw rfl c39_rrlborbl_ok c39_rrlborbl_dr ?_
    simp only [sX, simprocAttr, -List.reduceReplicate, hr1', hlt1, strIx_cons hw]
    refine run_block (b := c39_rrlborbrb) rfl ?_
    refine rS c39_rrlborbrbl c39_rrlborbrbr rfl ?_
    refine run_region rfl ?_
    simp only [sX, simprocAttr, -List.reduceReplicate]
    refine rF c39_rrlborbrbrt c39_rrlborbrbre rfl rfl ?_
    refine rS c39_rrlborbrbrel c39_rrlborbrbrer rfl ?_
    refine run_region rfl ?_
    simp only [sX, simprocAttr, -List.reduceReplicate]
    refine rT c39_rrlborbrbrert c39_rrlborbrbrere rfl rfl ?_
    refine rS c39_rrlborbrbrertl c39_rrlborbrbrertr rfl ?_
    refine run_region rfl ?_
    simp only [sX, simprocAttr, -List.reduceReplicate]
    refine call_of (one_ok _ _ _ _ _ _ _ _ _ _ _ _ _ (by omega) (by omega) (by omega)) ?_
    rintro v H2 ⟨rfl, rfl⟩
    simp only [sX, simprocAttr, -List.reduceReplicate]
    refine run_region rfl ?_
    simp only [sX, simprocAttr, -List.reduceReplicate, hr1', hlt1, hlim, hi]
    (refine run_loopk (b := c39_rrlbo) rfl keep39_2 ?_; simp only [sC, Nat.reduceBEq, Nat.reduceAdd])
    refine rS c39_rrlbol c39_rrlbor rfl ?_
    refine rS c39_rrlboll c39_rrlbolr rfl ?_
    refine run_regionG rfl c39_rrlboll_gs ?_
    simp only [sX, simprocAttr, -List.reduceReplicate, hl2]
    have hr2 : ∀ x, isRd ((H1 ++ [x]).set rb (some ⟨true, 0, rdC s (a1 + 1 : Nat) op 0 0⟩)) rb s (a1 + 1) op := fun x => isRd.set (by rw [len_snoc]; omega)
    refine call_of (more_tl _ (hr2 _) hw') ?_
    rintro v H2 ⟨rfl, rfl⟩
    simp only [List.isEmpty_cons]
    simp only [sX, simprocAttr, -List.reduceReplicate]
    refine rT c39_rrlbolrt c39_rrlbolre rfl rfl ?_
    refine run_skip rfl ?_
    simp only [sP]
    refine run_block (b := c39_rrlborb) rfl ?_
    refine rS c39_rrlborbl c39_rrlborbr rfl ?_
    refine run_draw rfl c39_rrlborbl_ok c39_rrlborbl_dr ?_
    simp only [sX, simprocAttr, -List.reduceReplicate, hl2, strIx_cons hw']
    refine run_block (b := c39_rrlborbrb) rfl ?_
    refine rS c39_rrlborbrbl c39_rrlborbrbr rfl ?_
    refine run_region rfl ?_
    simp only [sX, simprocAttr, -List.reduceReplicate, e1]
    refine rF c39_rrlborbrbrt c39_rrlborbrbre rfl rfl ?_
    refine rS c39_rrlborbrbrel c39_rrlborbrbrer rfl ?_
    refine run_region rfl ?_
    simp only [sX, simprocAttr, -List.reduceReplicate, e2]
    refine rF c39_rrlborbrbrert c39_rrlborbrbrere rfl rfl ?_
    refine rS c39_rrlborbrbrerel c39_rrlborbrbrerer rfl ?_
    refine run_region rfl ?_
    simp only [sX, simprocAttr, -List.reduceReplicate, e3]
    refine rF c39_rrlborbrbrerert c39_rrlborbrbrerere rfl rfl ?_
    refine rS c39_rrlborbrbrererel c39_rrlborbrbrererer rfl ?_
    refine run_region rfl ?_
    simp only [sX, simprocAttr, -List.reduceReplicate, e4]
    refine rF c39_rrlborbrbrererert c39_rrlborbrbrererere rfl rfl ?_
    refine rS c39_rrlborbrbrerererel c39_rrlborbrbrerererer rfl ?_
    refine run_region rfl ?_
    simp only [sX, simprocAttr, -List.reduceReplicate]
    refine run_ret rfl ?_
    (simp only [sP]; refine ⟨_, (by rw [resultsA_eq Try.results39]; simp only [sR, List.mapM_cons, List.mapM_nil, if_true, Nat.reduceAdd]; rfl), ?_⟩)
    exact got_one hrb hl1 hk1 hr1 ht1

theorem piece_3 (lim : Nat) (H : Hp) (rb : Nat) (s : ByteArray) (a0 a1 : Nat) (op : Int) (T : Tr) (w : List UInt8) (hlim : lim ≤ rb) (hr0 : isRd H rb s a0 op)
    (h1 : CallEx X lim 42 [.pointer (some ⟨rb, 0, none⟩)] H (Got H rb s a1 op T)) (hw : tl s a1 = 63 :: w) (hq : quiet w) (hsz : a1 + 1 < 9223372036854775808) (d1 : T.dp + 1 ≤ 40) (d2 : T.lv ≤ 400) :
    CallEx X lim 39 [.pointer (some ⟨rb, 0, none⟩)] H (Got H rb s (a1 + 1) op (.node 6 S4.z [T])) := by
  have q1 := T.dp_pos
  have hrb : rb < H.length := getO_lt hr0
  have hi : IntKind.i64.wrap ((a1 : Int) + 1) = ((a1 + 1 : Nat) : Int) := by rw [IntWalk.i64_in _ (by omega)]; omega
  have hw' := (tl_cons hw).2.2
  have f1 : decide (((63 : UInt8).toNat : Int) = 42) = false := by decide
  have f2 : decide (((63 : UInt8).toNat : Int) = 43) = false := by decide
  have f3 : decide (((63 : UInt8).toNat : Int) = 63) = true := by decide
  rcases hq with rfl | ⟨c, r, rfl, e1, e2, e3, e4⟩
  · (refine call_intro fun39 name39 body39 ?_; simp only [Try.ntmps39, List.map_cons, List.map_nil, List.length_cons, List.length_nil, Nat.zero_add, Nat.reduceSub, List.replicate_succ, List.replicate_zero, List.cons_append, List.nil_append])
    refine rS c39_l c39_r rfl ?_
    refine run_region rfl ?_
    simp only [sX, simprocAttr, -List.reduceReplicate]
    refine rS c39_rl c39_rr rfl ?_
    refine run_region rfl ?_
    simp only [sX, simprocAttr, -List.reduceReplicate]
    refine call_of h1 ?_
    rintro v H1 ⟨hl1, hk1, hr1, p1, n1, rfl, ht1⟩
    have hr1' := hr1
    unfold isRd rdC at hr1'
    have hlt1 := getO_lt hr1
    have hl2 : rb < H1.length + 1 := by omega
    unfold pcC
    simp only [sX, simprocAttr, -List.reduceReplicate, pur39]
    refine rS c39_rrl c39_rrr rfl ?_
    refine run_block (b := c39_rrlb) rfl ?_
    (refine run_loopk (b := c39_rrlbo) rfl keep39_2 ?_; simp only [sC, Nat.reduceBEq, Nat.reduceAdd])
    refine rS c39_rrlbol c39_rrlbor rfl ?_
    refine rS c39_rrlboll c39_rrlbolr rfl ?_
    refine run_regionG rfl c39_rrlboll_gs ?_
    simp only [sX, simprocAttr, -List.reduceReplicate, hr1']
    refine call_of (more_tl _ hr1 hw) ?_
    rintro v H1 ⟨rfl, rfl⟩
    simp only [List.isEmpty_cons]
    simp only [sX, simprocAttr, -List.reduceReplicate]
    refine rT c39_rrlbolrt c39_rrlbolre rfl rfl ?_
    refine run_skip rfl ?_
    simp only [sP]
    refine run_block (b := c39_rrlborb) rfl ?_
    refine rS c39_rrlborbl c39_rrlborbr rfl ?_
    refine run_draw rfl c39_rrlborbl_ok c39_rrlborbl_dr ?_
    simp only [sX, simprocAttr, -List.reduceReplicate, hr1', hlt1, strIx_cons hw]
    refine run_block (b := c39_rrlborbrb) rfl ?_
    refine rS c39_rrlborbrbl c39_rrlborbrbr rfl ?_
    refine run_region rfl ?_
    simp only [sX, simprocAttr, -List.reduceReplicate]
    refine rF c39_rrlborbrbrt c39_rrlborbrbre rfl rfl ?_
    refine rS c39_rrlborbrbrel c39_rrlborbrbrer rfl ?_
    refine run_region rfl ?_
    simp only [sX, simprocAttr, -List.reduceReplicate]
    refine rF c39_rrlborbrbrert c39_rrlborbrbrere rfl rfl ?_
    refine rS c39_rrlborbrbrerel c39_rrlborbrbrerer rfl ?_
    refine run_region rfl ?_
    simp only [sX, simprocAttr, -List.reduceReplicate]
    refine rT c39_rrlborbrbrerert c39_rrlborbrbrerere rfl rfl ?_
    refine rS c39_rrlborbrbrerertl c39_rrlborbrbrerertr rfl ?_
    refine run_region rfl ?_
    simp only [sX, simprocAttr, -List.reduceReplicate]
    refine call_of (one_ok _ _ _ _ _ _ _ _ _ _ _ _ _ (by omega) (by omega) (by omega)) ?_
    rintro v H2 ⟨rfl, rfl⟩
    simp only [sX, simprocAttr, -List.reduceReplicate]
    refine run_region rfl ?_
    simp only [sX, simprocAttr, -List.reduceReplicate, hr1', hlt1, hlim, hi]
    (refine run_loopk (b := c39_rrlbo) rfl keep39_2 ?_; simp only [sC, Nat.reduceBEq, Nat.reduceAdd])
    refine rS c39_rrlbol c39_rrlbor rfl ?_
    refine rS c39_rrlboll c39_rrlbolr rfl ?_
    refine run_regionG rfl c39_rrlboll_gs ?_
    simp only [sX, simprocAttr, -List.reduceReplicate, hl2]
    have hr2 : ∀ x, isRd ((H1 ++ [x]).set rb (some ⟨true, 0, rdC s (a1 + 1 : Nat) op 0 0⟩)) rb s (a1 + 1) op := fun x => isRd.set (by rw [len_snoc]; omega)
    refine call_of (more_tl _ (hr2 _) hw') ?_
    rintro v H2 ⟨rfl, rfl⟩
    simp only [List.isEmpty_nil]
    simp only [sX, simprocAttr, -List.reduceReplicate]
    refine rF c39_rrlbolrt c39_rrlbolre rfl rfl ?_
    refine run_exit rfl ?_
    simp only [sP, if_true]
    refine rS c39_rrrl c39_rrrr rfl ?_
    refine run_region rfl ?_
    simp only [sX, simprocAttr, -List.reduceReplicate]
    refine run_ret rfl ?_
    (simp only [sP]; refine ⟨_, (by rw [resultsA_eq Try.results39]; simp only [sR, List.mapM_cons, List.mapM_nil, if_true, Nat.reduceAdd]; rfl), ?_⟩)
    exact got_one hrb hl1 hk1 hr1 ht1

  · (refine call_intro fun39 name39 body39 ?_; simp only [Try.ntmps39, List.map_cons, List.map_nil, List.length_cons, List.length_nil, Nat.zero_add, Nat.reduceSub, List.replicate_succ, List.replicate_zero, List.cons_append, List.nil_append])
    refine rS c39_l c39_r rfl ?_
    refine run_region rfl ?_
    simp only [sX, simprocAttr, -List.reduceReplicate]
    refine rS c39_rl c39_rr rfl ?_
    refine run_region rfl ?_
    simp only [sX, simprocAttr, -List.reduceReplicate]
    refine call_of h1 ?_
    rintro v H1 ⟨hl1, hk1, hr1, p1, n1, rfl, ht1⟩
    have hr1' := hr1
    unfold isRd rdC at hr1'
    have hlt1 := getO_lt hr1
    have hl2 : rb < H1.length + 1 := by omega
    unfold pcC
    simp only [sX, simprocAttr, -List.reduceReplicate, pur39]
    refine rS c39_rrl c39_rrr rfl ?_
    refine run_block (b := c39_rrlb) rfl ?_
    (refine run_loopk (b := c39_rrlbo) rfl keep39_2 ?_; simp only [sC, Nat.reduceBEq, Nat.reduceAdd])
    refine rS c39_rrlbol c39_rrlbor rfl ?_
    refine rS c39_rrlboll c39_rrlbolr rfl ?_
    refine run_regionG rfl c39_rrlboll_gs ?_
    simp only [sX, simprocAttr, -List.reduceReplicate, hr1']
    refine call_of (more_tl _ hr1 hw) ?_
    rintro v H1 ⟨rfl, rfl⟩
    simp only [List.isEmpty_cons]
    simp only [sX, simprocAttr, -List.reduceReplicate]
    refine rT c39_rrlbolrt c39_rrlbolre rfl rfl ?_
    refine run_skip rfl ?_
    simp only [sP]
    refine run_block (b := c39_rrlborb) rfl ?_
    refine rS c39_rrlborbl c39_rrlborbr rfl ?_
    refine run_draw rfl c39_rrlborbl_ok c39_rrlborbl_dr ?_
    simp only [sX, simprocAttr, -List.reduceReplicate, hr1', hlt1, strIx_cons hw]
    refine run_block (b := c39_rrlborbrb) rfl ?_
    refine rS c39_rrlborbrbl c39_rrlborbrbr rfl ?_
    refine run_region rfl ?_
    simp only [sX, simprocAttr, -List.reduceReplicate]
    refine rF c39_rrlborbrbrt c39_rrlborbrbre rfl rfl ?_
    refine rS c39_rrlborbrbrel c39_rrlborbrbrer rfl ?_
    refine run_region rfl ?_
    simp only [sX, simprocAttr, -List.reduceReplicate]
    refine rF c39_rrlborbrbrert c39_rrlborbrbrere rfl rfl ?_
    refine rS c39_rrlborbrbrerel c39_rrlborbrbrerer rfl ?_
    refine run_region rfl ?_
    simp only [sX, simprocAttr, -List.reduceReplicate]
    refine rT c39_rrlborbrbrerert c39_rrlborbrbrerere rfl rfl ?_
    refine rS c39_rrlborbrbrerertl c39_rrlborbrbrerertr rfl ?_
    refine run_region rfl ?_
    simp only [sX, simprocAttr, -List.reduceReplicate]
    refine call_of (one_ok _ _ _ _ _ _ _ _ _ _ _ _ _ (by omega) (by omega) (by omega)) ?_
    rintro v H2 ⟨rfl, rfl⟩
    simp only [sX, simprocAttr, -List.reduceReplicate]
    refine run_region rfl ?_
    simp only [sX, simprocAttr, -List.reduceReplicate, hr1', hlt1, hlim, hi]
    (refine run_loopk (b := c39_rrlbo) rfl keep39_2 ?_; simp only [sC, Nat.reduceBEq, Nat.reduceAdd])
    refine rS c39_rrlbol c39_rrlbor rfl ?_
    refine rS c39_rrlboll c39_rrlbolr rfl ?_
    refine run_regionG rfl c39_rrlboll_gs ?_
    simp only [sX, simprocAttr, -List.reduceReplicate, hl2]
    have hr2 : ∀ x, isRd ((H1 ++ [x]).set rb (some ⟨true, 0, rdC s (a1 + 1 : Nat) op 0 0⟩)) rb s (a1 + 1) op := fun x => isRd.set (by rw [len_snoc]; omega)
    refine call_of (more_tl _ (hr2 _) hw') ?_
    rintro v H2 ⟨rfl, rfl⟩
    simp only [List.isEmpty_cons]
    simp only [sX, simprocAttr, -List.reduceReplicate]
    refine rT c39_rrlbolrt c39_rrlbolre rfl rfl ?_
    refine run_skip rfl ?_
    simp only [sP]
    refine run_block (b := c39_rrlborb) rfl ?_
    refine rS c39_rrlborbl c39_rrlborbr rfl ?_
    refine run_draw rfl c39_rrlborbl_ok c39_rrlborbl_dr ?_
    simp only [sX, simprocAttr, -List.reduceReplicate, hl2, strIx_cons hw']
    refine run_block (b := c39_rrlborbrb) rfl ?_
    refine rS c39_rrlborbrbl c39_rrlborbrbr rfl ?_
    refine run_region rfl ?_
    simp only [sX, simprocAttr, -List.reduceReplicate, e1]
    refine rF c39_rrlborbrbrt c39_rrlborbrbre rfl rfl ?_
    refine rS c39_rrlborbrbrel c39_rrlborbrbrer rfl ?_
    refine run_region rfl ?_
    simp only [sX, simprocAttr, -List.reduceReplicate, e2]
    refine rF c39_rrlborbrbrert c39_rrlborbrbrere rfl rfl ?_
    refine rS c39_rrlborbrbrerel c39_rrlborbrbrerer rfl ?_
    refine run_region rfl ?_
    simp only [sX, simprocAttr, -List.reduceReplicate, e3]
    refine rF c39_rrlborbrbrerert c39_rrlborbrbrerere rfl rfl ?_
    refine rS c39_rrlborbrbrererel c39_rrlborbrbrererer rfl ?_
    refine run_region rfl ?_
    simp only [sX, simprocAttr, -List.reduceReplicate, e4]
    refine rF c39_rrlborbrbrererert c39_rrlborbrbrererere rfl rfl ?_
    refine rS c39_rrlborbrbrerererel c39_rrlborbrbrerererer rfl ?_
    refine run_region rfl ?_
    simp only [sX, simprocAttr, -List.reduceReplicate]
    refine run_ret rfl ?_
    (simp only [sP]; refine ⟨_, (by rw [resultsA_eq Try.results39]; simp only [sR, List.mapM_cons, List.mapM_nil, if_true, Nat.reduceAdd]; rfl), ?_⟩)
    exact got_one hrb hl1 hk1 hr1 ht1

end Go.Proofs.Ytmgofjgfmcmceaa
end
section
namespace Go.Proofs.Ytmgofjgfmcmceaa
open Go.RowKit
set_option maxRecDepth 4000
set_option maxHeartbeats 4000000
theorem digits_0 (lim : Nat) (H : Hp) (rb : Nat) (s : ByteArray) (a1 : Nat) (op : Int) (w : List UInt8) (hlim : lim ≤ rb) (hr0 : isRd H rb s a1 op) (hw : tl s a1 = 48 :: 125 :: w) (hsz : a1 + 2 < 9223372036854775808) :
    CallEx X lim 52 [.pointer (some ⟨rb, 0, none⟩)] H fun v H1 => v = .int .i64 0 ∧ H1 = H.set rb (some ⟨true, 0, rdC s (a1 + 1 : Nat) op 0 0⟩) := by
  have hi : IntKind.i64.wrap ((a1 : Int) + 1) = ((a1 + 1 : Nat) : Int) := by rw [IntWalk.i64_in _ (by omega)]; omega
  have hi2 : IntKind.i64.wrap ((a1 : Int) + 2) = ((a1 + 2 : Nat) : Int) := by rw [IntWalk.i64_in _ (by omega)]; omega
  have hw' := (tl_cons hw).2.2
  have hr0' := hr0
  unfold isRd rdC at hr0'
  have hlt1 := getO_lt hr0
  have hr2 : isRd (H.set rb (some ⟨true, 0, rdC s (a1 + 1 : Nat) op 0 0⟩)) rb s (a1 + 1) op := isRd.set hlt1
  have e1 : decide ((a1 : Int) < ((a1 + 2 : Nat) : Int)) = true := by simp; omega
  have e2 : decide (((a1 + 1 : Nat) : Int) = (a1 : Int)) = false := by simp; omega
  (refine call_intro fun52 name52 body52 ?_; simp only [Try.ntmps52, List.map_cons, List.map_nil, List.length_cons, List.length_nil, Nat.zero_add, Nat.reduceSub, List.replicate_succ, List.replicate_zero, List.cons_append, List.nil_append])
  refine rS c52_l c52_r rfl ?_
  refine run_region rfl ?_
  simp only [sX, simprocAttr, -List.reduceReplicate, pur52]
  refine rS c52_rl c52_rr rfl ?_
  refine run_draw rfl c52_rl_ok c52_rl_dr ?_
  simp only [sX, simprocAttr, -List.reduceReplicate, hr0', hlt1]
  refine rS c52_rrl c52_rrr rfl ?_
  refine run_block (b := c52_rrlb) rfl ?_
  (refine run_loopk (b := c52_rrlbo) rfl keep52_2 ?_; simp only [sC, Nat.reduceBEq, Nat.reduceAdd])
  refine rS c52_rrlbol c52_rrlbor rfl ?_
  refine rS c52_rrlboll c52_rrlbolr rfl ?_
  refine run_drawG rfl c52_rrlboll_ok c52_rrlboll_dr c52_rrlboll_gs ?_
  simp only [sX, simprocAttr, -List.reduceReplicate]
  refine call_of (more_tl _ hr0 hw) ?_
  rintro v H1 ⟨rfl, rfl⟩
  simp only [List.isEmpty_cons]
  simp only [sX, simprocAttr, -List.reduceReplicate, hr0', hlt1, hi2, e1, strIx_cons hw]
  refine rT c52_rrlbolrt c52_rrlbolre rfl rfl ?_
  refine run_skip rfl ?_
  simp only [sP]
  refine run_block (b := c52_rrlborb) rfl ?_
  refine rS c52_rrlborbl c52_rrlborbr rfl ?_
  refine run_draw rfl c52_rrlborbl_ok c52_rrlborbl_dr ?_
  simp only [sX, simprocAttr, -List.reduceReplicate, hr0', hlt1, strIx_cons hw]
  refine run_region rfl ?_
  simp only [sX, simprocAttr, -List.reduceReplicate, hr0', hlim, hi]
  (refine run_loopk (b := c52_rrlbo) rfl keep52_2 ?_; simp only [sC, Nat.reduceBEq, Nat.reduceAdd])
  refine rS c52_rrlbol c52_rrlbor rfl ?_
  refine rS c52_rrlboll c52_rrlbolr rfl ?_
  refine run_drawG rfl c52_rrlboll_ok c52_rrlboll_dr c52_rrlboll_gs ?_
  simp only [sX, simprocAttr, -List.reduceReplicate]
  refine call_of (more_tl _ hr2 hw') ?_
  rintro v H1 ⟨rfl, rfl⟩
  simp only [List.isEmpty_cons]
  simp only [sX, simprocAttr, -List.reduceReplicate, hlt1, strIx_cons hw']
  refine rF c52_rrlbolrt c52_rrlbolre rfl rfl ?_
  refine run_exit rfl ?_
  simp only [sP, if_true]
  refine rS c52_rrrl c52_rrrr rfl ?_
  refine rS c52_rrrll c52_rrrlr rfl ?_
  refine run_region rfl ?_
  simp only [sX, simprocAttr, -List.reduceReplicate, hlt1, e2]
  refine rF c52_rrrlrt c52_rrrlre rfl rfl ?_
  refine run_skip rfl ?_
  simp only [sP]
  refine rS c52_rrrrl c52_rrrrr rfl ?_
  refine run_region rfl ?_
  simp only [sX, simprocAttr, -List.reduceReplicate]
  refine run_ret rfl ?_
  (simp only [sP]; refine ⟨_, (by rw [resultsA_eq Try.results52]; simp only [sR, List.mapM_cons, List.mapM_nil]; rfl), ?_⟩)
  exact ⟨rfl, rfl⟩

theorem leaf_ok (lim : Nat) (H : Hp) (k a b c d : Int) : CallEx X lim 46 [.int .i64 k, .agg #[.int .u64 a, .int .u64 b, .int .u64 c, .int .u64 d]] H fun v H1 => v = pcC k a b c d none 0 1 1 ∧ H1 = H := call_eq (leaf_eq lim H k a b c d) ⟨rfl, rfl⟩

theorem times_0 (lim : Nat) (H : Hp) (rb : Nat) (s : ByteArray) (a1 : Nat) (op : Int) (w : List UInt8) (k a b c d : Int) (p : Option Addr) (n : Nat) (dp lv : Int) (hlim : lim ≤ rb) (hr0 : isRd H rb s a1 op) (hw : tl s a1 = 123 :: 48 :: 125 :: w) (hsz : a1 + 3 < 9223372036854775808) :
    CallEx X lim 44 [.pointer (some ⟨rb, 0, none⟩), pcC k a b c d p n dp lv] H fun v H1 => v = pcC 0 0 0 0 0 none 0 1 1 ∧ H1 = H.set rb (some ⟨true, 0, rdC s (a1 + 3 : Nat) op 0 0⟩) := by
  have hi : IntKind.i64.wrap ((a1 : Int) + 1) = ((a1 + 1 : Nat) : Int) := by rw [IntWalk.i64_in _ (by omega)]; omega
  have hi2 : IntKind.i64.wrap (((a1 + 1 + 1 : Nat) : Int) + 1) = ((a1 + 3 : Nat) : Int) := by rw [IntWalk.i64_in _ (by omega)]; omega
  have hw1 := (tl_cons hw).2.2
  have hw2 := (tl_cons hw1).2.2
  have hr0' := hr0
  unfold isRd rdC at hr0'
  have hlt1 := getO_lt hr0
  have hr2 : isRd (H.set rb (some ⟨true, 0, rdC s (a1 + 1 : Nat) op 0 0⟩)) rb s (a1 + 1) op := isRd.set hlt1
  have hr3 : isRd (H.set rb (some ⟨true, 0, rdC s (a1 + 1 + 1 : Nat) op 0 0⟩)) rb s (a1 + 1 + 1) op := isRd.set hlt1
  unfold pcC
  (refine call_intro fun44 name44 body44 ?_; simp only [Try.ntmps44, List.map_cons, List.map_nil, List.length_cons, List.length_nil, Nat.zero_add, Nat.reduceAdd, Nat.reduceSub, List.replicate_succ, List.replicate_zero, List.cons_append, List.nil_append])
  refine rS c44_l c44_r rfl ?_
  refine run_region rfl ?_
  simp only [sX, simprocAttr, -List.reduceReplicate, pur44, rdC]
  refine rS c44_rl c44_rr rfl ?_
  refine run_region rfl ?_
  simp only [sX, simprocAttr, -List.reduceReplicate, hr0']
  refine rS c44_rrl c44_rrr rfl ?_
  refine run_region rfl ?_
  simp only [sX, simprocAttr, -List.reduceReplicate, hr0', hlim, hi]
  refine rS c44_rrrl c44_rrrr rfl ?_
  refine run_region rfl ?_
  simp only [sX, simprocAttr, -List.reduceReplicate]
  refine call_of (digits_0 _ _ rb s (a1 + 1) op w hlim hr2 hw1 (by omega)) ?_
  rintro v H1 ⟨rfl, rfl⟩
  unfold rdC
  simp only [sX, simprocAttr, -List.reduceReplicate]
  refine rS c44_rrrrl c44_rrrrr rfl ?_
  refine run_region rfl ?_
  simp only [sX, simprocAttr, -List.reduceReplicate]
  refine rS c44_rrrrrl c44_rrrrrr rfl ?_
  refine rS c44_rrrrrll c44_rrrrrlr rfl ?_
  refine run_region rfl ?_
  simp only [sX, simprocAttr, -List.reduceReplicate]
  refine call_of (is_tl _ hr3 hw2 _) ?_
  rintro v H1 ⟨rfl, h3⟩
  subst h3
  simp only [hd, UInt8.reduceToNat, Int.cast_ofNat_Int]
  simp only [sX, simprocAttr, -List.reduceReplicate, rdC]
  refine rF c44_rrrrrlrt c44_rrrrrlre rfl rfl ?_
  refine run_skip rfl ?_
  simp only [sP]
  refine rS c44_rrrrrrl c44_rrrrrrr rfl ?_
  refine run_regionG rfl c44_rrrrrrl_gs ?_
  simp only [sX, simprocAttr, -List.reduceReplicate]
  refine call_of (is_tl _ hr3 hw2 _) ?_
  rintro v H1 ⟨rfl, h3⟩
  subst h3
  simp only [hd, UInt8.reduceToNat, Int.cast_ofNat_Int]
  simp only [sX, simprocAttr, -List.reduceReplicate, rdC]
  refine rS c44_rrrrrrrl c44_rrrrrrrr rfl ?_
  refine rS c44_rrrrrrrll c44_rrrrrrrlr rfl ?_
  refine run_region rfl ?_
  simp only [sX, simprocAttr, -List.reduceReplicate]
  refine rF c44_rrrrrrrlrt c44_rrrrrrrlre rfl rfl ?_
  refine run_skip rfl ?_
  simp only [sP]
  refine rS c44_rrrrrrrrl c44_rrrrrrrrr rfl ?_
  refine run_region rfl ?_
  simp only [sX, simprocAttr, -List.reduceReplicate, hlt1, hlim, hi2]
  refine rS c44_rrrrrrrrrl c44_rrrrrrrrrr rfl ?_
  refine run_region rfl ?_
  simp only [sX, simprocAttr, -List.reduceReplicate]
  refine rS c44_rrrrrrrrrrl c44_rrrrrrrrrrr rfl ?_
  refine rS c44_rrrrrrrrrrll c44_rrrrrrrrrrlr rfl ?_
  refine run_region rfl ?_
  simp only [sX, simprocAttr, -List.reduceReplicate]
  refine rF c44_rrrrrrrrrrlrt c44_rrrrrrrrrrlre rfl rfl ?_
  refine run_skip rfl ?_
  simp only [sP]
  refine rS c44_rrrrrrrrrrrl c44_rrrrrrrrrrrr rfl ?_
  refine rS c44_rrrrrrrrrrrll c44_rrrrrrrrrrrlr rfl ?_
  refine run_region rfl ?_
  simp only [sX, simprocAttr, -List.reduceReplicate]
  refine rT c44_rrrrrrrrrrrlrt c44_rrrrrrrrrrrlre rfl rfl ?_
  refine rS c44_rrrrrrrrrrrlrtl c44_rrrrrrrrrrrlrtr rfl ?_
  refine run_region rfl ?_
  simp only [sX, simprocAttr, -List.reduceReplicate]
  refine call_of (leaf_ok _ _ _ _ _ _ _) ?_
  rintro v H1 ⟨rfl, rfl⟩
  unfold pcC
  simp only [sX, simprocAttr, -List.reduceReplicate]
  refine run_ret rfl ?_
  (simp only [sP]; refine ⟨_, (by rw [resultsA_eq Try.results44]; simp only [sR, List.mapM_cons, List.mapM_nil, if_true, Nat.reduceAdd]; rfl), ?_⟩)
  exact ⟨rfl, trivial⟩

end Go.Proofs.Ytmgofjgfmcmceaa
end
