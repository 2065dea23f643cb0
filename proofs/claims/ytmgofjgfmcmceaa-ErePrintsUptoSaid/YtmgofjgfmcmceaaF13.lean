/- ErePrints, where what it reads is of bulk at most 1048576: whatever the tree and the texts, the call returns true and each argument reads behind it as it read before. Proved by an interpreter of the program's text over plain data that is proved sound once (Derived/Test texts T), the walks of the functions with it (S, B, R, N, M, K), and plain laws (P). -/
import Derived.Test.YtmgofjgfmcmceaaF12
import Derived.ChangeArms
import Derived.ChangeOld
import Derived.ChangeSlices
import Derived.Test.YtmgofjgfmcmceaaRows
import Derived.WalkKit
import Derived.ProofKit
import Derived.OpenShut
import Derived.Below
import Derived.JoinedCond
section
/- What the parser does with a letter; with a sign that may not stand there. -/
namespace Go.Proofs.Ytmgofjgfmcmceaa
open Go.RowKit
set_option maxRecDepth 4000
set_option maxHeartbeats 2000000

theorem fault_ok (lim : Nat) (H : Hp) (rb : Nat) (s : ByteArray) (a : Nat) (op : Int) (at' e : Int) (hlim : lim ≤ rb) (hr : isRd H rb s a op) :
    CallEx X lim 24 [.pointer (some ⟨rb, 0, none⟩), .int .i64 at', .int .i64 e] H fun v H1 => v = .tuple #[] ∧ H1 = H.set rb (some ⟨true, 0, rdC s a op e at'⟩) := by
  have hr' := hr
  unfold isRd rdC at hr'
  have hlt := getO_lt hr
  (refine call_intro fun24 name24 body24 ?_; simp only [Try.ntmps24, List.map_cons, List.map_nil, List.length_cons, List.length_nil, Nat.zero_add, Nat.reduceAdd, Nat.reduceSub, List.replicate_succ, List.replicate_zero, List.cons_append, List.nil_append])
  refine rS c24_l c24_r rfl ?_
  refine run_region rfl ?_
  simp only [sX, simprocAttr, -List.reduceReplicate, hr', pur24]
  refine rT c24_rt c24_re rfl rfl ?_
  refine run_region rfl ?_
  simp only [sX, simprocAttr, -List.reduceReplicate, hr', hlt, hlim]
  (simp only [sP]; refine ⟨_, (by rw [resultsA_eq Try.results24]; simp only [sR, List.mapM_nil]; rfl), ?_⟩)
  exact ⟨rfl, rfl⟩
theorem atom_chr (lim : Nat) (H : Hp) (rb : Nat) (s : ByteArray) (a : Nat) (op : Int) (c : UInt8) (w0 : List UInt8) (hlim : lim ≤ rb) (hr0 : isRd H rb s a op) (hw0 : tl s a = c :: w0) (hsz0 : a + 1 < 9223372036854775808)
    (hq : ∀ n ∈ [(40 : Int), 46, 91, 94, 36, 92, 42, 43, 63, 123, 124, 41], decide ((c.toNat : Int) = n) = false) :
    CallEx X lim 42 [.pointer (some ⟨rb, 0, none⟩)] H (Got H rb s (a + 1) op (.node 1 (S4.z.put c.toNat) [])) := by
  have hrb : rb < H.length := getO_lt hr0
  have hr0' := hr0
  unfold isRd rdC at hr0'
  have i3 : IntKind.i64.wrap ((a : Int) + 1) = ((a + 1 : Nat) : Int) := by rw [IntWalk.i64_in _ (by omega)]; omega
  have q1 := hq 40 (by simp)
  have q2 := hq 46 (by simp)
  have q3 := hq 91 (by simp)
  have q4 := hq 94 (by simp)
  have q5 := hq 36 (by simp)
  have q6 := hq 92 (by simp)
  have q7 := hq 42 (by simp)
  have q8 := hq 43 (by simp)
  have q9 := hq 63 (by simp)
  have q10 := hq 123 (by simp)
  have q11 := hq 124 (by simp)
  have q12 := hq 41 (by simp)
  (refine call_intro fun42 name42 body42 ?_; simp only [Try.ntmps42, List.map_cons, List.map_nil, List.length_cons, List.length_nil, Nat.zero_add, Nat.reduceSub, List.replicate_succ, List.replicate_zero, List.cons_append, List.nil_append])
  refine rS c42_l c42_r rfl ?_
  refine run_region rfl ?_
  simp only [sX, simprocAttr, -List.reduceReplicate, pur42]
  refine rS c42_rl c42_rr rfl ?_
  refine rS c42_rll c42_rlr rfl ?_
  refine run_region rfl ?_
  simp only [sX, simprocAttr, -List.reduceReplicate]
  refine call_of (more_tl _ hr0 hw0) ?_
  rintro v H2 ⟨rfl, h2⟩
  subst h2
  simp only [List.isEmpty_cons]
  simp only [sX, simprocAttr, -List.reduceReplicate]
  refine rF c42_rlrt c42_rlre rfl rfl ?_
  refine run_skip rfl ?_
  simp only [sP]
  refine rS c42_rrl c42_rrr rfl ?_
  refine run_region rfl ?_
  simp only [sX, simprocAttr, -List.reduceReplicate, hr0']
  refine rS c42_rrrl c42_rrrr rfl ?_
  refine run_region rfl ?_
  simp only [sX, simprocAttr, -List.reduceReplicate, hr0', strIx_cons hw0]
  refine rS c42_rrrrl c42_rrrrr rfl ?_
  refine run_region rfl ?_
  simp only [sX, simprocAttr, -List.reduceReplicate, hr0', hlim, i3]
  refine rS c42_rrrrrl c42_rrrrrr rfl ?_
  refine rS c42_rrrrrll c42_rrrrrlr rfl ?_
  refine run_region rfl ?_
  simp only [sX, simprocAttr, -List.reduceReplicate]
  refine run_block (b := c42_rrrrrlrb) rfl ?_
  refine rS c42_rrrrrlrbl c42_rrrrrlrbr rfl ?_
  refine run_region rfl ?_
  simp only [sX, simprocAttr, -List.reduceReplicate, q1]
  refine rF c42_rrrrrlrbrt c42_rrrrrlrbre rfl rfl ?_
  refine rS c42_rrrrrlrbrel c42_rrrrrlrbrer rfl ?_
  refine run_region rfl ?_
  simp only [sX, simprocAttr, -List.reduceReplicate, q2]
  refine rF c42_rrrrrlrbrert c42_rrrrrlrbrere rfl rfl ?_
  refine rS c42_rrrrrlrbrerel c42_rrrrrlrbrerer rfl ?_
  refine run_region rfl ?_
  simp only [sX, simprocAttr, -List.reduceReplicate, q3]
  refine rF c42_rrrrrlrbrerert c42_rrrrrlrbrerere rfl rfl ?_
  refine rS c42_rrrrrlrbrererel c42_rrrrrlrbrererer rfl ?_
  refine run_region rfl ?_
  simp only [sX, simprocAttr, -List.reduceReplicate, q4]
  refine rF c42_rrrrrlrbrererert c42_rrrrrlrbrererere rfl rfl ?_
  refine rS c42_rrrrrlrbrerererel c42_rrrrrlrbrerererer rfl ?_
  refine run_region rfl ?_
  simp only [sX, simprocAttr, -List.reduceReplicate, q5]
  refine rF c42_rrrrrlrbrerererert c42_rrrrrlrbrerererere rfl rfl ?_
  refine rS c42_rrrrrlrbrererererel c42_rrrrrlrbrererererer rfl ?_
  refine run_region rfl ?_
  simp only [sX, simprocAttr, -List.reduceReplicate, q6]
  refine rF c42_rrrrrlrbrererererert c42_rrrrrlrbrererererere rfl rfl ?_
  refine rS c42_rrrrrlrbrerererererel c42_rrrrrlrbrerererererer rfl ?_
  refine rS c42_rrrrrlrbrerererererell c42_rrrrrlrbrerererererelr rfl ?_
  refine run_region rfl ?_
  simp only [sX, simprocAttr, -List.reduceReplicate, q7]
  refine rF c42_rrrrrlrbrerererererelrt c42_rrrrrlrbrerererererelre rfl rfl ?_
  refine rS c42_rrrrrlrbrerererererelrel c42_rrrrrlrbrerererererelrer rfl ?_
  refine run_region rfl ?_
  simp only [sX, simprocAttr, -List.reduceReplicate, q8]
  refine rF c42_rrrrrlrbrerererererelrert c42_rrrrrlrbrerererererelrere rfl rfl ?_
  refine rS c42_rrrrrlrbrerererererelrerel c42_rrrrrlrbrerererererelrerer rfl ?_
  refine run_region rfl ?_
  simp only [sX, simprocAttr, -List.reduceReplicate, q9]
  refine rF c42_rrrrrlrbrerererererelrerert c42_rrrrrlrbrerererererelrerere rfl rfl ?_
  refine rS c42_rrrrrlrbrerererererelrererel c42_rrrrrlrbrerererererelrererer rfl ?_
  refine run_region rfl ?_
  simp only [sX, simprocAttr, -List.reduceReplicate, q10]
  refine rF c42_rrrrrlrbrerererererelrererert c42_rrrrrlrbrerererererelrererere rfl rfl ?_
  refine rS c42_rrrrrlrbrerererererelrerererel c42_rrrrrlrbrerererererelrerererer rfl ?_
  refine run_region rfl ?_
  simp only [sX, simprocAttr, -List.reduceReplicate, q11]
  refine rF c42_rrrrrlrbrerererererelrerererert c42_rrrrrlrbrerererererelrerererere rfl rfl ?_
  refine run_region rfl ?_
  simp only [sX, simprocAttr, -List.reduceReplicate, q12]
  refine rF c42_rrrrrlrbrerererererert c42_rrrrrlrbrerererererere rfl rfl ?_
  refine run_skip rfl ?_
  simp only [sP]
  refine rS c42_rrrrrrl c42_rrrrrrr rfl ?_
  refine run_region rfl ?_
  simp only [sX, simprocAttr, -List.reduceReplicate]
  refine call_of (of_ok _ _ _ true c.toNat c.toNat_lt (getO_append_of_len (by rw [List.length_set]))) ?_
  rintro v H2 ⟨rfl, h2⟩
  subst h2
  unfold setV
  simp only [sX, simprocAttr, -List.reduceReplicate]
  refine call_of (leaf_ok _ _ _ _ _ _ _) ?_
  rintro v H1 ⟨rfl, h2⟩
  subst h2
  unfold pcC
  simp only [sX, simprocAttr, -List.reduceReplicate]
  refine run_ret rfl ?_
  (simp only [sP]; refine ⟨_, (by rw [resultsA_eq Try.results42]; simp only [sR, List.mapM_cons, List.mapM_nil, if_true, Nat.reduceAdd]; rfl), ?_⟩)
  exact ⟨by rw [len_snoc, List.length_set]; omega, fun b hb hn => by rw [getO_snoc (by simpa using hb), getO_set_ne hn], (isRd.set hrb).snoc, none, 0, rfl, IsRe.nil 1 _⟩

/-- As Got; but something was wrong at fr. -/
def GotE (H : Hp) (rb : Nat) (s : ByteArray) (a : Nat) (op fr : Int) (T : Tr) (v : Value) (H1 : Hp) : Prop :=
  H.length ≤ H1.length ∧ (∀ b, b < H.length → b ≠ rb → getO H1 b = getO H b) ∧ getO H1 rb = some ⟨true, 0, rdC s a op 24 fr⟩ ∧ Pc H1 H.length T v
theorem atom_bar (lim : Nat) (H : Hp) (rb : Nat) (s : ByteArray) (a : Nat) (op : Int) (w0 : List UInt8) (hlim : lim ≤ rb) (hr0 : isRd H rb s a op) (hw0 : tl s a = 124 :: w0) (hsz0 : a + 1 < 9223372036854775808) :
    CallEx X lim 42 [.pointer (some ⟨rb, 0, none⟩)] H (GotE H rb s (a + 1) op a (.node 1 (S4.z.put 124) [])) := by
  have hrb : rb < H.length := getO_lt hr0
  have hr0' := hr0
  unfold isRd rdC at hr0'
  have i3 : IntKind.i64.wrap ((a : Int) + 1) = ((a + 1 : Nat) : Int) := by rw [IntWalk.i64_in _ (by omega)]; omega
  have e124 : ((124 : Nat) : Int) = 124 := rfl
  (refine call_intro fun42 name42 body42 ?_; simp only [Try.ntmps42, List.map_cons, List.map_nil, List.length_cons, List.length_nil, Nat.zero_add, Nat.reduceSub, List.replicate_succ, List.replicate_zero, List.cons_append, List.nil_append])
  refine rS c42_l c42_r rfl ?_
  refine run_region rfl ?_
  simp only [sX, simprocAttr, -List.reduceReplicate, pur42]
  refine rS c42_rl c42_rr rfl ?_
  refine rS c42_rll c42_rlr rfl ?_
  refine run_region rfl ?_
  simp only [sX, simprocAttr, -List.reduceReplicate]
  refine call_of (more_tl _ hr0 hw0) ?_
  rintro v H2 ⟨rfl, h2⟩
  subst h2
  simp only [List.isEmpty_cons]
  simp only [sX, simprocAttr, -List.reduceReplicate]
  refine rF c42_rlrt c42_rlre rfl rfl ?_
  refine run_skip rfl ?_
  simp only [sP]
  refine rS c42_rrl c42_rrr rfl ?_
  refine run_region rfl ?_
  simp only [sX, simprocAttr, -List.reduceReplicate, hr0']
  refine rS c42_rrrl c42_rrrr rfl ?_
  refine run_region rfl ?_
  simp only [sX, simprocAttr, -List.reduceReplicate, hr0', strIx_cons hw0]
  refine rS c42_rrrrl c42_rrrrr rfl ?_
  refine run_region rfl ?_
  simp only [sX, simprocAttr, -List.reduceReplicate, hr0', hlim, i3]
  refine rS c42_rrrrrl c42_rrrrrr rfl ?_
  refine rS c42_rrrrrll c42_rrrrrlr rfl ?_
  refine run_region rfl ?_
  simp only [sX, simprocAttr, -List.reduceReplicate]
  refine run_block (b := c42_rrrrrlrb) rfl ?_
  refine rS c42_rrrrrlrbl c42_rrrrrlrbr rfl ?_
  refine run_region rfl ?_
  simp only [sX, simprocAttr, -List.reduceReplicate]
  refine rF c42_rrrrrlrbrt c42_rrrrrlrbre rfl rfl ?_
  refine rS c42_rrrrrlrbrel c42_rrrrrlrbrer rfl ?_
  refine run_region rfl ?_
  simp only [sX, simprocAttr, -List.reduceReplicate]
  refine rF c42_rrrrrlrbrert c42_rrrrrlrbrere rfl rfl ?_
  refine rS c42_rrrrrlrbrerel c42_rrrrrlrbrerer rfl ?_
  refine run_region rfl ?_
  simp only [sX, simprocAttr, -List.reduceReplicate]
  refine rF c42_rrrrrlrbrerert c42_rrrrrlrbrerere rfl rfl ?_
  refine rS c42_rrrrrlrbrererel c42_rrrrrlrbrererer rfl ?_
  refine run_region rfl ?_
  simp only [sX, simprocAttr, -List.reduceReplicate]
  refine rF c42_rrrrrlrbrererert c42_rrrrrlrbrererere rfl rfl ?_
  refine rS c42_rrrrrlrbrerererel c42_rrrrrlrbrerererer rfl ?_
  refine run_region rfl ?_
  simp only [sX, simprocAttr, -List.reduceReplicate]
  refine rF c42_rrrrrlrbrerererert c42_rrrrrlrbrerererere rfl rfl ?_
  refine rS c42_rrrrrlrbrererererel c42_rrrrrlrbrererererer rfl ?_
  refine run_region rfl ?_
  simp only [sX, simprocAttr, -List.reduceReplicate]
  refine rF c42_rrrrrlrbrererererert c42_rrrrrlrbrererererere rfl rfl ?_
  refine rS c42_rrrrrlrbrerererererel c42_rrrrrlrbrerererererer rfl ?_
  refine rS c42_rrrrrlrbrerererererell c42_rrrrrlrbrerererererelr rfl ?_
  refine run_region rfl ?_
  simp only [sX, simprocAttr, -List.reduceReplicate]
  refine rF c42_rrrrrlrbrerererererelrt c42_rrrrrlrbrerererererelre rfl rfl ?_
  refine rS c42_rrrrrlrbrerererererelrel c42_rrrrrlrbrerererererelrer rfl ?_
  refine run_region rfl ?_
  simp only [sX, simprocAttr, -List.reduceReplicate]
  refine rF c42_rrrrrlrbrerererererelrert c42_rrrrrlrbrerererererelrere rfl rfl ?_
  refine rS c42_rrrrrlrbrerererererelrerel c42_rrrrrlrbrerererererelrerer rfl ?_
  refine run_region rfl ?_
  simp only [sX, simprocAttr, -List.reduceReplicate]
  refine rF c42_rrrrrlrbrerererererelrerert c42_rrrrrlrbrerererererelrerere rfl rfl ?_
  refine rS c42_rrrrrlrbrerererererelrererel c42_rrrrrlrbrerererererelrererer rfl ?_
  refine run_region rfl ?_
  simp only [sX, simprocAttr, -List.reduceReplicate]
  refine rF c42_rrrrrlrbrerererererelrererert c42_rrrrrlrbrerererererelrererere rfl rfl ?_
  refine rS c42_rrrrrlrbrerererererelrerererel c42_rrrrrlrbrerererererelrerererer rfl ?_
  refine run_region rfl ?_
  simp only [sX, simprocAttr, -List.reduceReplicate]
  refine rT c42_rrrrrlrbrerererererelrerererert c42_rrrrrlrbrerererererelrerererere rfl rfl ?_
  refine run_skip rfl ?_
  simp only [sP]
  refine rT c42_rrrrrlrbrerererererert c42_rrrrrlrbrerererererere rfl rfl ?_
  refine run_region rfl ?_
  simp only [sX, simprocAttr, -List.reduceReplicate]
  refine call_of (fault_ok _ _ rb s (a + 1) op a 24 hlim (isRd.set hrb)) ?_
  rintro v H2 ⟨rfl, h2⟩
  subst h2
  simp only [sX, simprocAttr, -List.reduceReplicate]
  refine rS c42_rrrrrrl c42_rrrrrrr rfl ?_
  refine run_region rfl ?_
  simp only [sX, simprocAttr, -List.reduceReplicate]
  refine call_of (of_ok _ _ _ true 124 (by decide) (getO_append_of_len (by simp))) ?_
  rintro v H2 ⟨rfl, h2⟩
  subst h2
  unfold setV
  simp only [sX, simprocAttr, -List.reduceReplicate]
  refine call_of (leaf_ok _ _ _ _ _ _ _) ?_
  rintro v H1 ⟨rfl, h2⟩
  subst h2
  unfold pcC
  simp only [sX, simprocAttr, -List.reduceReplicate]
  refine run_ret rfl ?_
  (simp only [sP]; refine ⟨_, (by rw [resultsA_eq Try.results42]; simp only [sR, List.mapM_cons, List.mapM_nil, if_true, Nat.reduceAdd]; rfl), ?_⟩)
  exact ⟨by rw [len_snoc, List.length_set]; omega, fun b hb hn => by rw [getO_snoc (by simpa using hb), getO_set_ne hn], by rw [getO_snoc (by simpa using hrb)]; exact getO_set_self (by simpa using hrb), none, 0, rfl, IsRe.nil 1 _⟩
theorem piece_e (lim : Nat) (H : Hp) (rb : Nat) (s : ByteArray) (a1 : Nat) (op fr : Int) (T : Tr)
    (h1 : CallEx X lim 42 [.pointer (some ⟨rb, 0, none⟩)] H (GotE H rb s a1 op fr T)) : CallEx X lim 39 [.pointer (some ⟨rb, 0, none⟩)] H (GotE H rb s a1 op fr T) := by
  (refine call_intro fun39 name39 body39 ?_; simp only [Try.ntmps39, List.map_cons, List.map_nil, List.length_cons, List.length_nil, Nat.zero_add, Nat.reduceSub, List.replicate_succ, List.replicate_zero, List.cons_append, List.nil_append])
  refine rS c39_l c39_r rfl ?_
  refine run_region rfl ?_
  simp only [sX, simprocAttr, -List.reduceReplicate]
  refine rS c39_rl c39_rr rfl ?_
  refine run_region rfl ?_
  simp only [sX, simprocAttr, -List.reduceReplicate]
  refine call_of h1 ?_
  rintro v H1 ⟨hl1, hk1, hr1, p1, n1, rfl, ht1⟩
  have hr1' := hr1
  unfold rdC at hr1'
  have hlt1 := getO_lt hr1
  unfold pcC
  simp only [sX, simprocAttr, -List.reduceReplicate]
  refine rS c39_rrl c39_rrr rfl ?_
  refine run_block (b := c39_rrlb) rfl ?_
  (refine run_loopk (b := c39_rrlbo) rfl keep39_2 ?_; simp only [sC, Nat.reduceBEq, Nat.reduceAdd])
  refine rS c39_rrlbol c39_rrlbor rfl ?_
  refine rS c39_rrlboll c39_rrlbolr rfl ?_
  refine run_regionG rfl c39_rrlboll_gs ?_
  simp only [sX, simprocAttr, -List.reduceReplicate, hr1']
  refine rF c39_rrlbolrt c39_rrlbolre rfl rfl ?_
  refine run_exit rfl ?_
  simp only [sP, if_true]
  refine rS c39_rrrl c39_rrrr rfl ?_
  refine run_region rfl ?_
  simp only [sX, simprocAttr, -List.reduceReplicate]
  refine run_ret rfl ?_
  (simp only [sP]; refine ⟨_, (by rw [resultsA_eq Try.results39]; simp only [sR, List.mapM_cons, List.mapM_nil, if_true, Nat.reduceAdd]; rfl), ?_⟩)
  exact ⟨hl1, hk1, hr1, p1, n1, rfl, ht1⟩
theorem gotE_snoc {H H1 : Hp} {rb : Nat} {s : ByteArray} {a : Nat} {op fr : Int} {T : Tr} {p : Option Addr} {n : Nat} {x : Option AObj} (h1 : H.length ≤ H1.length) (h2 : ∀ b, b < H.length → b ≠ rb → getO H1 b = getO H b) (h3 : getO H1 rb = some ⟨true, 0, rdC s a op 24 fr⟩)
    (h4 : IsRe H1 (fun b => H.length ≤ b) T (reC T.k T.s p n)) : GotE H rb s a op fr T (pcC T.k T.s.a.toNat T.s.b.toNat T.s.c.toNat T.s.d.toNat p n T.dp T.lv) (H1 ++ [x]) := by
  refine ⟨by rw [len_snoc]; omega, fun b hb hn => ?_, by rw [getO_snoc (getO_lt h3)]; exact h3, p, n, rfl, h4.app _⟩
  rw [getO_snoc (by omega)]; exact h2 b hb hn
theorem pieces_e (lim : Nat) (H : Hp) (rb : Nat) (s : ByteArray) (a1 : Nat) (op fr : Int) (T : Tr)
    (h1 : CallEx X lim 39 [.pointer (some ⟨rb, 0, none⟩)] H (GotE H rb s a1 op fr T)) : CallEx X lim 29 [.pointer (some ⟨rb, 0, none⟩)] H (GotE H rb s a1 op fr T) := by
  (refine call_intro fun29 name29 body29 ?_; simp only [Try.ntmps29, List.map_cons, List.map_nil, List.length_cons, List.length_nil, Nat.zero_add, Nat.reduceSub, List.replicate_succ, List.replicate_zero, List.cons_append, List.nil_append])
  refine rS c29_l c29_r rfl ?_
  refine run_region rfl ?_
  simp only [sX, simprocAttr, -List.reduceReplicate]
  refine rS c29_rl c29_rr rfl ?_
  refine run_region rfl ?_
  simp only [sX, simprocAttr, -List.reduceReplicate]
  refine call_of h1 ?_
  rintro v H1 ⟨hl1, hk1, hr1, p1, n1, rfl, ht1⟩
  have hr1' := hr1
  unfold rdC at hr1'
  have hlt1 := getO_lt hr1
  unfold pcC
  simp only [sX, simprocAttr, -List.reduceReplicate]
  refine rS c29_rrl c29_rrr rfl ?_
  refine run_block (b := c29_rrlb) rfl ?_
  (refine run_loopk (b := c29_rrlbo) rfl keep29_2 ?_; simp only [sC, Nat.reduceBEq, Nat.reduceAdd])
  refine rS c29_rrlbol c29_rrlbor rfl ?_
  refine rS c29_rrlboll c29_rrlbolr rfl ?_
  refine run_regionG rfl c29_rrlboll_gs ?_
  simp only [sX, simprocAttr, -List.reduceReplicate, hr1', hlt1]
  refine rF c29_rrlbolrt c29_rrlbolre rfl rfl ?_
  refine run_exit rfl ?_
  simp only [sP, if_true]
  refine rS c29_rrrl c29_rrrr rfl ?_
  refine run_region rfl ?_
  simp only [sX, simprocAttr, -List.reduceReplicate]
  refine call_of (row_1 _ _ _ _ _ _ _ _ _ _ _ _ _ true getO_append_new) ?_
  rintro v H2 ⟨rfl, h2⟩
  subst h2
  unfold pcC
  simp only [sX, simprocAttr, -List.reduceReplicate]
  refine run_ret rfl ?_
  (simp only [sP]; refine ⟨_, (by rw [resultsA_eq Try.results29]; simp only [sR, List.mapM_cons, List.mapM_nil, if_true, Nat.reduceAdd]; rfl), ?_⟩)
  exact gotE_snoc hl1 hk1 hr1 ht1
theorem alt_e (lim : Nat) (H : Hp) (rb : Nat) (s : ByteArray) (a0 a1 a2 : Nat) (op fr : Int) (T1 T2 : Tr) (w1 : List UInt8) (hlim : lim ≤ rb) (hr0 : isRd H rb s a0 op)
    (h1 : CallEx X lim 29 [.pointer (some ⟨rb, 0, none⟩)] H (Got H rb s a1 op T1)) (hw1 : tl s a1 = 124 :: w1) (hsz : a1 + 1 < 9223372036854775808)
    (h2 : ∀ H, isRd H rb s (a1 + 1) op → CallEx X lim 29 [.pointer (some ⟨rb, 0, none⟩)] H (GotE H rb s a2 op fr T2))
    (d1 : T1.dp + 1 ≤ 40) (d2 : T2.dp ≤ 40) (d3 : T1.lv + T2.lv ≤ 400) :
    CallEx X lim 22 [.pointer (some ⟨rb, 0, none⟩)] H fun v H1 => (∃ k a b c d p n dp lv, v = pcC k a b c d p n dp lv) ∧ H.length ≤ H1.length ∧ (∀ b, b < H.length → b ≠ rb → getO H1 b = getO H b) ∧ getO H1 rb = some ⟨true, 0, rdC s a2 op 24 fr⟩ := by
  have q1 := T1.dp_pos
  have q2 := T2.dp_pos
  have q3 := T1.lv_pos
  have q4 := T2.lv_pos
  have hrb : rb < H.length := getO_lt hr0
  have hi : IntKind.i64.wrap ((a1 : Int) + 1) = ((a1 + 1 : Nat) : Int) := by rw [IntWalk.i64_in _ (by omega)]; omega
  (refine call_intro fun22 name22 body22 ?_; simp only [Try.ntmps22, List.map_cons, List.map_nil, List.length_cons, List.length_nil, Nat.zero_add, Nat.reduceSub, List.replicate_succ, List.replicate_zero, List.cons_append, List.nil_append])
  refine rS c22_l c22_r rfl ?_
  refine run_region rfl ?_
  simp only [sX, simprocAttr, -List.reduceReplicate]
  refine rS c22_rl c22_rr rfl ?_
  refine run_region rfl ?_
  simp only [sX, simprocAttr, -List.reduceReplicate]
  refine call_of h1 ?_
  rintro v H1 ⟨hl1, hk1, hr1, p1, n1, rfl, ht1⟩
  have hr1' := hr1
  unfold isRd rdC at hr1'
  have hlt1 := getO_lt hr1
  have hll : lim ≤ rb := hlim
  unfold pcC
  simp only [sX, simprocAttr, -List.reduceReplicate, pur22]
  refine rS c22_rrl c22_rrr rfl ?_
  refine run_block (b := c22_rrlb) rfl ?_
  (refine run_loopk (b := c22_rrlbo) rfl keep22_2 ?_; simp only [sC, Nat.reduceBEq, Nat.reduceAdd])
  refine rS c22_rrlbol c22_rrlbor rfl ?_
  refine rS c22_rrlboll c22_rrlbolr rfl ?_
  refine run_regionG rfl c22_rrlboll_gs ?_
  simp only [sX, simprocAttr, -List.reduceReplicate, hr1', hlt1]
  refine call_of (is_tl _ (isRd.snoc hr1) hw1 _) ?_
  rintro v H2 ⟨rfl, rfl⟩
  simp only [hd, UInt8.reduceToNat, Int.cast_ofNat_Int]
  simp only [sX, simprocAttr, -List.reduceReplicate]
  refine rT c22_rrlbolrt c22_rrlbolre rfl rfl ?_
  refine run_skip rfl ?_
  simp only [sP]
  refine run_block (b := c22_rrlborb) rfl ?_
  refine rS c22_rrlborbl c22_rrlborbr rfl ?_
  refine run_region rfl ?_
  simp only [sX, simprocAttr, -List.reduceReplicate, hr1', hlt1, hll, hi]
  refine run_region rfl ?_
  simp only [sX, simprocAttr, -List.reduceReplicate]
  refine call_of (h2 _ (isRd.set (by rw [len_snoc]; omega))) ?_
  rintro v H3 ⟨hl3, hk3, hr3, p3, n3, rfl, ht3⟩
  rw [List.length_set, len_snoc] at hl3 hk3 ht3
  have hlt3 := getO_lt hr3
  unfold pcC
  simp only [sX, simprocAttr, -List.reduceReplicate]
  refine append_of el68 sz58 (srcCells_obj getO_append_new rfl) (by decide) (by rw [getO_snoc (by omega), hk3 _ (by omega) (by omega), getO_set_ne (by omega)]; exact getO_append_new) (by omega) rfl (roomOk_of by58 zr58 sz58 rfl (by decide) (by decide)) rfl rfl ?_
  rintro H4 hl4 hk4 hn4
  rw [len_snoc] at hl4 hk4
  have hr4 : getO H4 rb = some ⟨true, 0, rdC s a2 op 24 fr⟩ := by rw [hk4 rb (by omega) (by omega), getO_snoc (by omega)]; exact hr3
  have hr4' := hr4
  unfold rdC at hr4'
  simp only [sX, simprocAttr, -List.reduceReplicate]
  (refine run_loopk (b := c22_rrlbo) rfl keep22_2 ?_; simp only [sC, Nat.reduceBEq, Nat.reduceAdd])
  refine rS c22_rrlbol c22_rrlbor rfl ?_
  refine rS c22_rrlboll c22_rrlbolr rfl ?_
  refine run_regionG rfl c22_rrlboll_gs ?_
  simp only [sX, simprocAttr, -List.reduceReplicate, hr4']
  refine rF c22_rrlbolrt c22_rrlbolre rfl rfl ?_
  refine run_exit rfl ?_
  simp only [sP, if_true]
  refine rS c22_rrrl c22_rrrr rfl ?_
  refine run_region rfl ?_
  simp only [sX, simprocAttr, -List.reduceReplicate]
  rw [len_snoc] at hn4
  refine call_of (row_2 _ _ _ _ _ _ _ _ _ _ _ _ _ _ _ _ _ _ _ _ _ (by omega) (by omega) (by omega) (by omega) (by omega) (by omega) (by omega) _ true hn4) ?_
  rintro v H5 ⟨rfl, rfl⟩
  unfold pcC
  simp only [sX, simprocAttr, -List.reduceReplicate]
  refine run_ret rfl ?_
  (simp only [sP]; refine ⟨_, (by rw [resultsA_eq Try.results22]; simp only [sR, List.mapM_cons, List.mapM_nil, if_true, Nat.reduceAdd]; rfl), ?_⟩)
  refine ⟨⟨_, _, _, _, _, _, _, _, _, rfl⟩, by rw [len_snoc]; omega, fun b hb hn => ?_, by rw [getO_snoc (getO_lt hr4)]; exact hr4⟩
  rw [getO_snoc (by omega), hk4 b (by omega) (by omega), getO_snoc (by omega), hk3 b (by omega) hn, getO_set_ne hn, getO_snoc (by omega), hk1 b hb hn]
end Go.Proofs.Ytmgofjgfmcmceaa
end
section
/- known: it is. -/
namespace Go.Proofs.Ytmgofjgfmcmceaa
open Go.RowKit
set_option maxRecDepth 4000
set_option maxHeartbeats 4000000

theorem parse_of (lim : Nat) (H : Hp) (l : List UInt8) (T : Tr) (hT : Ok T) (hne : l ≠ []) (hl : T.lv ≤ 400) (hh : T.ht ≤ 40) (_hlim : lim ≤ H.length)
    (hp : ∀ H', isRd H' H.length (bs l) 0 0 → CallEx X lim 22 [.pointer (some ⟨H.length, 0, none⟩)] H' (Got H' H.length (bs l) (0 + l.length) 0 T)) :
    CallEx X lim 9 [.string (bs l)] H fun v H1 => ∃ p n, v = .tuple #[reV T.k T.s p n, .int .i64 0, .int .i64 0] ∧ IsRe H1 (fun b => H.length ≤ b) T (reC T.k T.s p n) ∧ Gr H H1 := by
  have e0 := toList_ne hne
  have hr0 : isRd (H ++ [some ⟨true, 0, [.string (bs l), .int .i64 0, .int .i64 0, .int .i64 0, .int .i64 0]⟩]) H.length (bs l) 0 0 := getO_append_new
  have hw : tl (bs l) 0 = l ++ [] := by simp [tl, bs]
  have hw2 : tl (bs l) (0 + l.length) = [] := tl_app hw
  have hsh := shp_of_ok hT
  (refine call_intro fun9 name9 body9 ?_; simp only [Try.ntmps9, List.map_cons, List.map_nil, List.length_cons, List.length_nil, Nat.zero_add, Nat.reduceSub, List.replicate_succ, List.replicate_zero, List.cons_append, List.nil_append])
  refine rS c9_l c9_r rfl ?_
  refine run_region rfl ?_
  simp only [sX, simprocAttr, -List.reduceReplicate, pur9]
  refine rS c9_rl c9_rr rfl ?_
  refine rS c9_rll c9_rlr rfl ?_
  refine run_region rfl ?_
  simp only [sX, simprocAttr, -List.reduceReplicate, e0]
  refine rF c9_rlrt c9_rlre rfl rfl ?_
  refine run_skip rfl ?_
  simp only [sP]
  refine rS c9_rrl c9_rrr rfl ?_
  refine run_region rfl ?_
  simp only [sX, simprocAttr, -List.reduceReplicate]
  refine rS c9_rrrl c9_rrrr rfl ?_
  refine run_region rfl ?_
  simp only [sX, simprocAttr, -List.reduceReplicate]
  refine call_of (hp _ hr0) ?_
  rintro v H1 ⟨hl1, hk1, hr1, p1, n1, rfl, ht1⟩
  rw [len_snoc] at hl1 hk1 ht1
  have hr1' := hr1
  unfold isRd rdC at hr1'
  unfold pcC
  simp only [sX, simprocAttr, -List.reduceReplicate]
  refine rS c9_rrrrl c9_rrrrr rfl ?_
  refine rS c9_rrrrll c9_rrrrlr rfl ?_
  refine run_regionG rfl c9_rrrrll_gs ?_
  simp only [sX, simprocAttr, -List.reduceReplicate, hr1']
  refine call_of (more_tl _ hr1 hw2) ?_
  rintro v H2 ⟨rfl, h2⟩
  subst h2
  simp only [List.isEmpty_nil]
  simp only [sX, simprocAttr, -List.reduceReplicate]
  refine rF c9_rrrrlrt c9_rrrrlre rfl rfl ?_
  refine run_skip rfl ?_
  simp only [sP]
  refine rS c9_rrrrrl c9_rrrrrr rfl ?_
  refine rS c9_rrrrrll c9_rrrrrlr rfl ?_
  refine run_regionG rfl c9_rrrrrll_gs ?_
  simp only [sX, simprocAttr, -List.reduceReplicate, hr1']
  refine call_of (rightE _ _ _ T p1 n1 ht1 hh (by omega)) ?_
  rintro v H2 ⟨rfl, h2⟩
  subst h2
  rw [hsh]
  simp only [sX, simprocAttr, -List.reduceReplicate]
  refine rF c9_rrrrrlrt c9_rrrrrlre rfl rfl ?_
  refine run_skip rfl ?_
  simp only [sP]
  refine rS c9_rrrrrrl c9_rrrrrrr rfl ?_
  refine rS c9_rrrrrrll c9_rrrrrrlr rfl ?_
  refine run_region rfl ?_
  simp only [sX, simprocAttr, -List.reduceReplicate, hr1']
  refine rF c9_rrrrrrlrt c9_rrrrrrlre rfl rfl ?_
  refine run_skip rfl ?_
  simp only [sP]
  refine rS c9_rrrrrrrl c9_rrrrrrrr rfl ?_
  refine run_region rfl ?_
  simp only [sX, simprocAttr, -List.reduceReplicate]
  refine run_ret rfl ?_
  (simp only [sP]; refine ⟨_, (by rw [resultsA_eq Try.results9]; simp only [sR, List.mapM_cons, List.mapM_nil, if_true, Nat.reduceAdd]; rfl), ?_⟩)
  exact ⟨p1, n1, rfl, ht1.mono2 (fun b hb => Nat.le_of_succ_le hb) (fun _ _ _ => rfl), by omega, fun b hb => by rw [hk1 b (by omega) (by omega), getO_snoc hb]⟩

theorem parse_e (lim : Nat) (H : Hp) (l : List UInt8) (hne : l ≠ []) (_hlim : lim ≤ H.length) (a : Nat) (fr : Int)
    (hp : ∀ H', isRd H' H.length (bs l) 0 0 → CallEx X lim 22 [.pointer (some ⟨H.length, 0, none⟩)] H' fun v H1 => (∃ k a b c d p n dp lv, v = pcC k a b c d p n dp lv) ∧ H'.length ≤ H1.length ∧ (∀ b, b < H'.length → b ≠ H.length → getO H1 b = getO H' b) ∧ getO H1 H.length = some ⟨true, 0, rdC (bs l) a 0 24 fr⟩) :
    CallEx X lim 9 [.string (bs l)] H fun v H1 => v = .tuple #[reV 0 S4.z none 0, .int .i64 fr, .int .i64 24] ∧ Gr H H1 := by
  have e0 := toList_ne hne
  have hr0 : isRd (H ++ [some ⟨true, 0, [.string (bs l), .int .i64 0, .int .i64 0, .int .i64 0, .int .i64 0]⟩]) H.length (bs l) 0 0 := getO_append_new
  (refine call_intro fun9 name9 body9 ?_; simp only [Try.ntmps9, List.map_cons, List.map_nil, List.length_cons, List.length_nil, Nat.zero_add, Nat.reduceSub, List.replicate_succ, List.replicate_zero, List.cons_append, List.nil_append])
  refine rS c9_l c9_r rfl ?_
  refine run_region rfl ?_
  simp only [sX, simprocAttr, -List.reduceReplicate, pur9]
  refine rS c9_rl c9_rr rfl ?_
  refine rS c9_rll c9_rlr rfl ?_
  refine run_region rfl ?_
  simp only [sX, simprocAttr, -List.reduceReplicate, e0]
  refine rF c9_rlrt c9_rlre rfl rfl ?_
  refine run_skip rfl ?_
  simp only [sP]
  refine rS c9_rrl c9_rrr rfl ?_
  refine run_region rfl ?_
  simp only [sX, simprocAttr, -List.reduceReplicate]
  refine rS c9_rrrl c9_rrrr rfl ?_
  refine run_region rfl ?_
  simp only [sX, simprocAttr, -List.reduceReplicate]
  refine call_of (hp _ hr0) ?_
  rintro v H1 ⟨⟨k1, x1, x2, x3, x4, p1, n1, dp1, lv1, rfl⟩, hl1, hk1, hr1⟩
  rw [len_snoc] at hl1 hk1
  have hr1' := hr1
  have hlt1 := getO_lt hr1
  unfold rdC at hr1'
  unfold pcC
  simp only [sX, simprocAttr, -List.reduceReplicate]
  refine rS c9_rrrrl c9_rrrrr rfl ?_
  refine rS c9_rrrrll c9_rrrrlr rfl ?_
  refine run_regionG rfl c9_rrrrll_gs ?_
  simp only [sX, simprocAttr, -List.reduceReplicate, hr1']
  refine rF c9_rrrrlrt c9_rrrrlre rfl rfl ?_
  refine run_skip rfl ?_
  simp only [sP]
  refine rS c9_rrrrrl c9_rrrrrr rfl ?_
  refine rS c9_rrrrrll c9_rrrrrlr rfl ?_
  refine run_regionG rfl c9_rrrrrll_gs ?_
  simp only [sX, simprocAttr, -List.reduceReplicate, hr1']
  refine rF c9_rrrrrlrt c9_rrrrrlre rfl rfl ?_
  refine run_skip rfl ?_
  simp only [sP]
  refine rS c9_rrrrrrl c9_rrrrrrr rfl ?_
  refine rS c9_rrrrrrll c9_rrrrrrlr rfl ?_
  refine run_region rfl ?_
  simp only [sX, simprocAttr, -List.reduceReplicate, hr1']
  refine rT c9_rrrrrrlrt c9_rrrrrrlre rfl rfl ?_
  refine rS c9_rrrrrrlrtl c9_rrrrrrlrtr rfl ?_
  refine run_draw rfl c9_rrrrrrlrtl_ok c9_rrrrrrlrtl_dr ?_
  simp only [sX, simprocAttr, -List.reduceReplicate, hr1', hlt1]
  refine run_ret rfl ?_
  (simp only [sP]; refine ⟨_, (by rw [resultsA_eq Try.results9]; simp only [sR, List.mapM_cons, List.mapM_nil, if_true, Nat.reduceAdd]; rfl), ?_⟩)
  exact ⟨rfl, by omega, fun b hb => by rw [hk1 b (by omega) (by omega), getO_snoc hb]⟩

/-- Sets that are known to be as they are. -/
def SameS (s : S4) : Prop := ∀ x y : Operand, binR X.P .neq 28 x y (.agg #[.int .u64 s.a.toNat, .int .u64 s.b.toNat, .int .u64 s.c.toNat, .int .u64 s.d.toNat]) (.agg #[.int .u64 s.a.toNat, .int .u64 s.b.toNat, .int .u64 s.c.toNat, .int .u64 s.d.toNat]) = some (.bool false)
theorem sameS_z : SameS S4.z := fun x y => by kernel_rfl
theorem sameS_a : SameS (S4.z.put 97) := fun x y => by kernel_rfl
theorem sameS_b : SameS (S4.z.put 98) := fun x y => by kernel_rfl
def SameT (T : Tr) : Prop := ∀ (lim : Nat) (H : Hp) (S S' : Nat → Prop) (p q : Option Addr) (n m : Nat), IsRe H S T (reC T.k T.s p n) → IsRe H S' T (reC T.k T.s q m) →
  CallEx X lim 18 [reV T.k T.s p n, reV T.k T.s q m] H fun v H1 => v = .bool true ∧ H1 = H
theorem same_0 (k : Int) (s : S4) (hs : SameS s) : SameT (.node k s []) := by
  intro lim H S S' p q n m h h'
  simp only [Tr.k, Tr.s] at h h' ⊢
  obtain ⟨rfl, rfl⟩ := h.inv0
  obtain ⟨rfl, rfl⟩ := h'.inv0
  unfold SameS at hs
  have ek : decide (k = k) = true := by simp
  unfold reV
  (refine call_intro fun18 name18 body18 ?_; simp only [Try.ntmps18, List.map_cons, List.map_nil, List.length_cons, List.length_nil, Nat.zero_add, Nat.reduceAdd, Nat.reduceSub, List.replicate_succ, List.replicate_zero, List.cons_append, List.nil_append])
  refine rS c18_l c18_r rfl ?_
  refine run_region rfl ?_
  simp only [sX, simprocAttr, -List.reduceReplicate]
  refine rS c18_rl c18_rr rfl ?_
  refine rS c18_rll c18_rlr rfl ?_
  refine run_regionG rfl c18_rll_gs ?_
  simp only [sX, simprocAttr, -List.reduceReplicate, hs]
  refine rF c18_rlrt c18_rlre rfl rfl ?_
  refine run_skip rfl ?_
  simp only [sP]
  refine rS c18_rrl c18_rrr rfl ?_
  refine rS c18_rrll c18_rrlr rfl ?_
  refine run_region rfl ?_
  simp only [sX, simprocAttr, -List.reduceReplicate]
  refine run_block (b := c18_rrlrb) rfl ?_
  (refine run_loopk (b := c18_rrlrbo) rfl keep18_4 ?_; simp only [sC, Nat.reduceBEq, Nat.reduceAdd])
  refine rS c18_rrlrbol c18_rrlrbor rfl ?_
  refine rS c18_rrlrboll c18_rrlrbolr rfl ?_
  refine run_region rfl ?_
  simp only [sX, simprocAttr, -List.reduceReplicate]
  refine rF c18_rrlrbolrt c18_rrlrbolre rfl rfl ?_
  refine run_exit rfl ?_
  simp only [sP, if_true]
  refine rS c18_rrrl c18_rrrr rfl ?_
  refine run_region rfl ?_
  simp only [sX, simprocAttr, -List.reduceReplicate]
  refine run_ret rfl ?_
  (simp only [sP]; refine ⟨_, (by rw [resultsA_eq Try.results18]; simp only [sR, List.mapM_cons, List.mapM_nil]; rfl), ?_⟩)
  exact ⟨rfl, trivial⟩
theorem same_1 (k : Int) {A : Tr} (ha : SameT A) : SameT (.node k S4.z [A]) := by
  intro lim H S S' p q n m h h'
  simp only [Tr.k, Tr.s] at h h' ⊢
  obtain ⟨rfl, bl, wr, p1, rfl, _, ho, hA⟩ := h.inv1
  obtain ⟨rfl, bl', wr', p1', rfl, _, ho', hA'⟩ := h'.inv1
  have hs := sameS_z
  unfold SameS at hs
  have ek : decide (k = k) = true := by simp
  have hc := fun lim => ha lim H S S' p1 p1' _ _ hA hA'
  have l1 := getO_lt ho
  have l2 := getO_lt ho'
  unfold reC at ho ho'
  unfold reV at hc ⊢
  (refine call_intro fun18 name18 body18 ?_; simp only [Try.ntmps18, List.map_cons, List.map_nil, List.length_cons, List.length_nil, Nat.zero_add, Nat.reduceAdd, Nat.reduceSub, List.replicate_succ, List.replicate_zero, List.cons_append, List.nil_append])
  refine rS c18_l c18_r rfl ?_
  refine run_region rfl ?_
  simp only [sX, simprocAttr, -List.reduceReplicate]
  refine rS c18_rl c18_rr rfl ?_
  refine rS c18_rll c18_rlr rfl ?_
  refine run_regionG rfl c18_rll_gs ?_
  simp only [sX, simprocAttr, -List.reduceReplicate, hs]
  refine rF c18_rlrt c18_rlre rfl rfl ?_
  refine run_skip rfl ?_
  simp only [sP]
  refine rS c18_rrl c18_rrr rfl ?_
  refine rS c18_rrll c18_rrlr rfl ?_
  refine run_region rfl ?_
  simp only [sX, simprocAttr, -List.reduceReplicate]
  refine run_block (b := c18_rrlrb) rfl ?_
  (refine run_loopk (b := c18_rrlrbo) rfl keep18_4 ?_; simp only [sC, Nat.reduceBEq, Nat.reduceAdd])
  refine rS c18_rrlrbol c18_rrlrbor rfl ?_
  refine rS c18_rrlrboll c18_rrlrbolr rfl ?_
  refine run_region rfl ?_
  simp only [sX, simprocAttr, -List.reduceReplicate]
  refine rT c18_rrlrbolrt c18_rrlrbolre rfl rfl ?_
  refine run_skip rfl ?_
  simp only [sP]
  refine rS c18_rrlrborl c18_rrlrborr rfl ?_
  refine run_block (b := c18_rrlrborlb) rfl ?_
  refine rS c18_rrlrborlbl c18_rrlrborlbr rfl ?_
  refine run_draw rfl c18_rrlrborlbl_ok c18_rrlrborlbl_dr ?_
  simp only [sX, simprocAttr, -List.reduceReplicate, ho, ho', l1, l2]
  refine call_of (hc _) ?_
  rintro v H2 ⟨rfl, h2⟩
  subst h2
  simp only [sX, simprocAttr, -List.reduceReplicate]
  refine rF c18_rrlrborlbrt c18_rrlrborlbre rfl rfl ?_
  refine run_skip rfl ?_
  simp only [sP]
  refine run_region rfl ?_
  simp only [sX, simprocAttr, -List.reduceReplicate]
  (refine run_loopk (b := c18_rrlrbo) rfl keep18_4 ?_; simp only [sC, Nat.reduceBEq, Nat.reduceAdd])
  refine rS c18_rrlrbol c18_rrlrbor rfl ?_
  refine rS c18_rrlrboll c18_rrlrbolr rfl ?_
  refine run_region rfl ?_
  simp only [sX, simprocAttr, -List.reduceReplicate]
  refine rF c18_rrlrbolrt c18_rrlrbolre rfl rfl ?_
  refine run_exit rfl ?_
  simp only [sP, if_true]
  refine rS c18_rrrl c18_rrrr rfl ?_
  refine run_region rfl ?_
  simp only [sX, simprocAttr, -List.reduceReplicate]
  refine run_ret rfl ?_
  (simp only [sP]; refine ⟨_, (by rw [resultsA_eq Try.results18]; simp only [sR, List.mapM_cons, List.mapM_nil]; rfl), ?_⟩)
  exact ⟨rfl, trivial⟩
theorem same_2 (k : Int) {A B : Tr} (ha : SameT A) (hb : SameT B) : SameT (.node k S4.z [A, B]) := by
  intro lim H S S' p q n m h h'
  simp only [Tr.k, Tr.s] at h h' ⊢
  obtain ⟨rfl, bl, wr, p1, p2, rfl, _, ho, hA, hB⟩ := h.inv2
  obtain ⟨rfl, bl', wr', p1', p2', rfl, _, ho', hA', hB'⟩ := h'.inv2
  have hs := sameS_z
  unfold SameS at hs
  have ek : decide (k = k) = true := by simp
  have hc := fun lim => ha lim H S S' p1 p1' _ _ hA hA'
  have hc2 := fun lim => hb lim H S S' p2 p2' _ _ hB hB'
  have l1 := getO_lt ho
  have l2 := getO_lt ho'
  unfold reC at ho ho'
  simp only [List.cons_append, List.nil_append] at ho ho'
  unfold reV at hc hc2 ⊢
  (refine call_intro fun18 name18 body18 ?_; simp only [Try.ntmps18, List.map_cons, List.map_nil, List.length_cons, List.length_nil, Nat.zero_add, Nat.reduceAdd, Nat.reduceSub, List.replicate_succ, List.replicate_zero, List.cons_append, List.nil_append])
  refine rS c18_l c18_r rfl ?_
  refine run_region rfl ?_
  simp only [sX, simprocAttr, -List.reduceReplicate]
  refine rS c18_rl c18_rr rfl ?_
  refine rS c18_rll c18_rlr rfl ?_
  refine run_regionG rfl c18_rll_gs ?_
  simp only [sX, simprocAttr, -List.reduceReplicate, hs]
  refine rF c18_rlrt c18_rlre rfl rfl ?_
  refine run_skip rfl ?_
  simp only [sP]
  refine rS c18_rrl c18_rrr rfl ?_
  refine rS c18_rrll c18_rrlr rfl ?_
  refine run_region rfl ?_
  simp only [sX, simprocAttr, -List.reduceReplicate]
  refine run_block (b := c18_rrlrb) rfl ?_
  (refine run_loopk (b := c18_rrlrbo) rfl keep18_4 ?_; simp only [sC, Nat.reduceBEq, Nat.reduceAdd])
  refine rS c18_rrlrbol c18_rrlrbor rfl ?_
  refine rS c18_rrlrboll c18_rrlrbolr rfl ?_
  refine run_region rfl ?_
  simp only [sX, simprocAttr, -List.reduceReplicate]
  refine rT c18_rrlrbolrt c18_rrlrbolre rfl rfl ?_
  refine run_skip rfl ?_
  simp only [sP]
  refine rS c18_rrlrborl c18_rrlrborr rfl ?_
  refine run_block (b := c18_rrlrborlb) rfl ?_
  refine rS c18_rrlrborlbl c18_rrlrborlbr rfl ?_
  refine run_draw rfl c18_rrlrborlbl_ok c18_rrlrborlbl_dr ?_
  simp only [sX, simprocAttr, -List.reduceReplicate, ho, ho', l1, l2]
  refine call_of (hc _) ?_
  rintro v H2 ⟨rfl, h2⟩
  subst h2
  simp only [sX, simprocAttr, -List.reduceReplicate]
  refine rF c18_rrlrborlbrt c18_rrlrborlbre rfl rfl ?_
  refine run_skip rfl ?_
  simp only [sP]
  refine run_region rfl ?_
  simp only [sX, simprocAttr, -List.reduceReplicate]
  (refine run_loopk (b := c18_rrlrbo) rfl keep18_4 ?_; simp only [sC, Nat.reduceBEq, Nat.reduceAdd])
  refine rS c18_rrlrbol c18_rrlrbor rfl ?_
  refine rS c18_rrlrboll c18_rrlrbolr rfl ?_
  refine run_region rfl ?_
  simp only [sX, simprocAttr, -List.reduceReplicate]
  refine rT c18_rrlrbolrt c18_rrlrbolre rfl rfl ?_
  refine run_skip rfl ?_
  simp only [sP]
  refine rS c18_rrlrborl c18_rrlrborr rfl ?_
  refine run_block (b := c18_rrlrborlb) rfl ?_
  refine rS c18_rrlrborlbl c18_rrlrborlbr rfl ?_
  refine run_draw rfl c18_rrlrborlbl_ok c18_rrlrborlbl_dr ?_
  simp only [sX, simprocAttr, -List.reduceReplicate, ho, ho', l1, l2]
  refine call_of (hc2 _) ?_
  rintro v H2 ⟨rfl, h2⟩
  subst h2
  simp only [sX, simprocAttr, -List.reduceReplicate]
  refine rF c18_rrlrborlbrt c18_rrlrborlbre rfl rfl ?_
  refine run_skip rfl ?_
  simp only [sP]
  refine run_region rfl ?_
  simp only [sX, simprocAttr, -List.reduceReplicate]
  (refine run_loopk (b := c18_rrlrbo) rfl keep18_4 ?_; simp only [sC, Nat.reduceBEq, Nat.reduceAdd])
  refine rS c18_rrlrbol c18_rrlrbor rfl ?_
  refine rS c18_rrlrboll c18_rrlrbolr rfl ?_
  refine run_region rfl ?_
  simp only [sX, simprocAttr, -List.reduceReplicate]
  refine rF c18_rrlrbolrt c18_rrlrbolre rfl rfl ?_
  refine run_exit rfl ?_
  simp only [sP, if_true]
  refine rS c18_rrrl c18_rrrr rfl ?_
  refine run_region rfl ?_
  simp only [sX, simprocAttr, -List.reduceReplicate]
  refine run_ret rfl ?_
  (simp only [sP]; refine ⟨_, (by rw [resultsA_eq Try.results18]; simp only [sR, List.mapM_cons, List.mapM_nil]; rfl), ?_⟩)
  exact ⟨rfl, trivial⟩
end Go.Proofs.Ytmgofjgfmcmceaa
end
section
/- known answers true. -/
namespace Go.Proofs.Ytmgofjgfmcmceaa
open Go.RowKit
set_option maxRecDepth 4000
set_option maxHeartbeats 4000000

def Ta : Tr := .node 1 (S4.z.put 97) []
def Tb : Tr := .node 1 (S4.z.put 98) []
theorem chr_q (c : UInt8) (h : c = 97 ∨ c = 98) : ∀ n ∈ [(40 : Int), 46, 91, 94, 36, 92, 42, 43, 63, 123, 124, 41], decide ((c.toNat : Int) = n) = false := by
  rcases h with rfl | rfl <;> decide
theorem parse_1 (lim : Nat) (H : Hp) (hlim : lim ≤ H.length) : CallEx X lim 9 [.string (bs [97, 98, 42])] H fun v H1 => ∃ p n, v = .tuple #[reV 2 S4.z p n, .int .i64 0, .int .i64 0] ∧ IsRe H1 (fun b => H.length ≤ b) (.node 2 S4.z [Ta, .node 4 S4.z [Tb]]) (reC 2 S4.z p n) ∧ Gr H H1 := by
  refine parse_of lim H [97, 98, 42] (.node 2 S4.z [Ta, .node 4 S4.z [Tb]]) (.cat (.set _) (.star (.set _))) (by simp) (by decide) (by decide) hlim (fun H' hr => ?_)
  have w0 : tl (bs [97, 98, 42]) 0 = [97, 98, 42] := rfl
  have w1 : tl (bs [97, 98, 42]) (0 + 1) = [98, 42] := rfl
  have w2 : tl (bs [97, 98, 42]) (0 + 1 + 1) = [42] := rfl
  have w3 : tl (bs [97, 98, 42]) (0 + 1 + 1 + 1) = [] := rfl
  have h1 := piece_0 lim H' H.length _ _ 0 Ta _ (atom_chr lim H' H.length _ 0 0 97 _ hlim hr w0 (by decide) (chr_q 97 (.inl rfl))) w1 (.inr ⟨98, _, rfl, by decide, by decide, by decide, by decide⟩)
  have h2 : ∀ H'', isRd H'' H.length (bs [97, 98, 42]) (0 + 1) 0 → CallEx X lim 39 [.pointer (some ⟨H.length, 0, none⟩)] H'' (Got H'' H.length (bs [97, 98, 42]) (0 + 1 + 1 + 1) 0 (.node 4 S4.z [Tb])) := fun H'' hr'' =>
    piece_1 lim H'' H.length _ _ _ 0 Tb _ hlim hr'' (atom_chr lim H'' H.length _ _ 0 98 _ hlim hr'' w1 (by decide) (chr_q 98 (.inr rfl))) w2 (.inl rfl) (by decide) (by decide) (by decide)
  have h3 := pieces_2 lim H' H.length _ _ _ _ 0 Ta (.node 4 S4.z [Tb]) _ [] hlim hr h1 w1 rfl rfl rfl h2 w3 (.inl rfl) (by decide) (by decide) (by decide)
  exact alt_1 lim H' H.length _ _ 0 _ _ h3 w3 rfl
theorem parse_2 (lim : Nat) (H : Hp) (hlim : lim ≤ H.length) : CallEx X lim 9 [.string (bs [97, 124, 98])] H fun v H1 => ∃ p n, v = .tuple #[reV 3 S4.z p n, .int .i64 0, .int .i64 0] ∧ IsRe H1 (fun b => H.length ≤ b) (.node 3 S4.z [Ta, Tb]) (reC 3 S4.z p n) ∧ Gr H H1 := by
  refine parse_of lim H [97, 124, 98] (.node 3 S4.z [Ta, Tb]) (.alt (.set _) (.set _)) (by simp) (by decide) (by decide) hlim (fun H' hr => ?_)
  have w0 : tl (bs [97, 124, 98]) 0 = [97, 124, 98] := rfl
  have w1 : tl (bs [97, 124, 98]) (0 + 1) = [124, 98] := rfl
  have w2 : tl (bs [97, 124, 98]) (0 + 1 + 1) = [98] := rfl
  have w3 : tl (bs [97, 124, 98]) (0 + 1 + 1 + 1) = [] := rfl
  have h1 := pieces_1 lim H' H.length _ _ 0 Ta _ (piece_0 lim H' H.length _ _ 0 Ta _ (atom_chr lim H' H.length _ 0 0 97 _ hlim hr w0 (by decide) (chr_q 97 (.inl rfl))) w1 (quiet_cons (.inr (.inr rfl)))) w1 (.inr (.inr ⟨rfl, rfl⟩))
  exact alt_2 lim H' H.length _ _ _ _ 0 Ta Tb _ [] hlim hr h1 w1 (by decide) (fun H'' hr'' => pieces_1 lim H'' H.length _ _ 0 Tb _ (piece_0 lim H'' H.length _ _ 0 Tb _ (atom_chr lim H'' H.length _ _ 0 98 _ hlim hr'' w2 (by decide) (chr_q 98 (.inr rfl))) w3 (.inl rfl)) w3 (.inl rfl)) w3 rfl (by decide) (by decide) (by decide)
theorem parse_3 (lim : Nat) (H : Hp) (hlim : lim ≤ H.length) : CallEx X lim 9 [.string (bs [97, 124, 124, 98])] H fun v H1 => v = .tuple #[reV 0 S4.z none 0, .int .i64 2, .int .i64 24] ∧ Gr H H1 := by
  refine parse_e lim H [97, 124, 124, 98] (by simp) hlim (0 + 1 + 1 + 1) 2 (fun H' hr => ?_)
  have w0 : tl (bs [97, 124, 124, 98]) 0 = [97, 124, 124, 98] := rfl
  have w1 : tl (bs [97, 124, 124, 98]) (0 + 1) = [124, 124, 98] := rfl
  have w2 : tl (bs [97, 124, 124, 98]) (0 + 1 + 1) = [124, 98] := rfl
  have h1 := pieces_1 lim H' H.length _ _ 0 Ta _ (piece_0 lim H' H.length _ _ 0 Ta _ (atom_chr lim H' H.length _ 0 0 97 _ hlim hr w0 (by decide) (chr_q 97 (.inl rfl))) w1 (quiet_cons (.inr (.inr rfl)))) w1 (.inr (.inr ⟨rfl, rfl⟩))
  exact alt_e lim H' H.length _ _ _ _ 0 2 Ta (.node 1 (S4.z.put 124) []) _ hlim hr h1 w1 (by decide) (fun H'' hr'' => pieces_e lim H'' H.length _ _ 0 2 _ (piece_e lim H'' H.length _ _ 0 2 _ (atom_bar lim H'' H.length _ _ 0 _ hlim hr'' w2 (by decide)))) (by decide) (by decide) (by decide)

theorem same_A : SameT (.node 2 S4.z [Ta, .node 4 S4.z [Tb]]) := same_2 2 (same_0 1 _ sameS_a) (same_1 4 (same_0 1 _ sameS_b))
theorem same_B : SameT (.node 3 S4.z [Ta, Tb]) := same_2 3 (same_0 1 _ sameS_a) (same_0 1 _ sameS_b)
theorem lit_A (H : Hp) : IsRe ((H ++ [some ⟨true, 6, reC 1 (S4.z.put 98) none 0⟩]) ++ [some ⟨true, 6, reC 1 (S4.z.put 97) none 0 ++ reC 4 S4.z (some ⟨H.length, 0, none⟩) 1⟩]) (fun _ => True) (.node 2 S4.z [Ta, .node 4 S4.z [Tb]]) (reC 2 S4.z (some ⟨H.length + 1, 0, none⟩) 2) := by
  refine IsRe.cons 2 S4.z [Ta, .node 4 S4.z [Tb]] (H.length + 1) true [reC 1 (S4.z.put 97) none 0, reC 4 S4.z (some ⟨H.length, 0, none⟩) 1] (by simp) trivial rfl (by rw [getO_append_of_len (by rw [len_snoc])]; simp) ?_
  intro i hi hi'
  match i, hi, hi' with
  | 0, _, _ => exact IsRe.nil 1 _
  | 1, _, _ =>
    refine IsRe.cons 4 S4.z [Tb] H.length true [reC 1 (S4.z.put 98) none 0] (by simp) trivial rfl (by rw [getO_snoc (by rw [len_snoc]; omega), getO_append_new]; simp) ?_
    intro i hi hi'
    match i, hi, hi' with
    | 0, _, _ => exact IsRe.nil 1 _
theorem lit_B (H : Hp) : IsRe (H ++ [some ⟨true, 6, reC 1 (S4.z.put 97) none 0 ++ reC 1 (S4.z.put 98) none 0⟩]) (fun _ => True) (.node 3 S4.z [Ta, Tb]) (reC 3 S4.z (some ⟨H.length, 0, none⟩) 2) := by
  refine IsRe.cons 3 S4.z [Ta, Tb] H.length true [reC 1 (S4.z.put 97) none 0, reC 1 (S4.z.put 98) none 0] (by simp) trivial rfl (by rw [getO_append_new]; simp) ?_
  intro i hi hi'
  match i, hi, hi' with
  | 0, _, _ => exact IsRe.nil 1 _
  | 1, _, _ => exact IsRe.nil 1 _

theorem known_ok (lim : Nat) (H : Hp) (hlim : lim ≤ H.length) : CallEx X lim 7 [] H fun v H1 => v = .bool true ∧ Gr H H1 := by
  have hcA := fun lim (H : Hp) (p : Option Addr) (n : Nat) (S : Nat → Prop) (h : IsRe H S (.node 2 S4.z [Ta, .node 4 S4.z [Tb]]) (reC 2 S4.z p n)) => same_A lim _ S (fun _ => True) p (some ⟨H.length + 1, 0, none⟩) n 2 ((h.app _).app _) (lit_A H)
  have hcB := fun lim (H : Hp) (p : Option Addr) (n : Nat) (S : Nat → Prop) (h : IsRe H S (.node 3 S4.z [Ta, Tb]) (reC 3 S4.z p n)) (z : Nat) (hz : H.length = z) => same_B lim _ S (fun _ => True) p (some ⟨z, 0, none⟩) n 2 (h.app _) (hz ▸ lit_B H)
  have hq1 := fun lim H hlim => parse_1 lim H hlim
  have hq2 := fun lim H hlim => parse_2 lim H hlim
  have hq3 := fun lim H hlim => parse_3 lim H hlim
  unfold bs at hq1 hq2 hq3
  simp only [Tr.k, Tr.s] at hcA hcB
  unfold reV at hcA hcB hq1 hq2 hq3
  unfold reC at hcA hcB
  simp only [List.cons_append, List.nil_append] at hcA hcB
  have ha : ∀ lim H, CallEx X lim 14 [.int .u8 97] H fun v H1 => v = reV 1 (S4.z.put 97) none 0 ∧ H1 = H := fun lim H => call_eq (one_a lim H) ⟨rfl, rfl⟩
  have hb : ∀ lim H, CallEx X lim 14 [.int .u8 98] H fun v H1 => v = reV 1 (S4.z.put 98) none 0 ∧ H1 = H := fun lim H => call_eq (one_b lim H) ⟨rfl, rfl⟩
  unfold reV at ha hb
  (refine call_intro fun7 name7 body7 ?_; simp only [Try.ntmps7, List.map_nil, List.length_nil, Nat.reduceSub, List.replicate_succ, List.replicate_zero, List.nil_append])
  refine rS c7_l c7_r rfl ?_
  refine run_region rfl ?_
  simp only [sX, simprocAttr, -List.reduceReplicate, pur7]
  refine rS c7_rl c7_rr rfl ?_
  refine run_region rfl ?_
  simp only [sX, simprocAttr, -List.reduceReplicate]
  refine call_of (hq1 _ _ hlim) ?_
  rintro v H1 ⟨p1, n1, rfl, hT1, hg1⟩
  simp only [sX, simprocAttr, -List.reduceReplicate]
  refine rS c7_rrl c7_rrr rfl ?_
  refine run_region rfl ?_
  simp only [sX, simprocAttr, -List.reduceReplicate]
  refine call_of (hq2 _ _ (by have := hg1.1; omega)) ?_
  rintro v H2 ⟨p2, n2, rfl, hT2, hg2⟩
  simp only [sX, simprocAttr, -List.reduceReplicate]
  refine rS c7_rrrl c7_rrrr rfl ?_
  refine run_region rfl ?_
  simp only [sX, simprocAttr, -List.reduceReplicate]
  refine call_of (hq3 _ _ (by have := hg1.1; have := hg2.1; omega)) ?_
  rintro v H3 ⟨rfl, hg3⟩
  simp only [sX, simprocAttr, -List.reduceReplicate]
  refine rS c7_rrrrl c7_rrrrr rfl ?_
  refine run_region rfl ?_
  simp only [sX, simprocAttr, -List.reduceReplicate]
  refine call_of (ha _ _) ?_
  rintro v H4 ⟨rfl, h4⟩
  subst h4
  simp only [sX, simprocAttr, -List.reduceReplicate]
  refine rS c7_rrrrrl c7_rrrrrr rfl ?_
  refine run_region rfl ?_
  simp only [sX, simprocAttr, -List.reduceReplicate]
  refine call_of (hb _ _) ?_
  rintro v H4 ⟨rfl, h4⟩
  subst h4
  simp only [sX, simprocAttr, -List.reduceReplicate]
  refine rS c7_rrrrrrl c7_rrrrrrr rfl ?_
  refine run_regionG rfl c7_rrrrrrl_gs ?_
  simp only [sX, simprocAttr, -List.reduceReplicate]
  refine call_of (hcA _ _ p1 n1 _ ((hT1.gr hg2).gr hg3)) ?_
  rintro v H4 ⟨rfl, h4⟩
  subst h4
  simp only [sX, simprocAttr, -List.reduceReplicate]
  refine call_of (hcB _ _ p2 n2 _ (((hT2.gr hg3).app _).app _) _ (by rw [len_snoc, len_snoc])) ?_
  rintro v H4 ⟨rfl, h4⟩
  subst h4
  simp only [sX, simprocAttr, -List.reduceReplicate]
  refine run_ret rfl ?_
  (simp only [sP]; refine ⟨_, (by rw [resultsA_eq Try.results7]; simp only [sR, List.mapM_cons, List.mapM_nil]; rfl), ?_⟩)
  exact ⟨rfl, (hg1.trans (hg2.trans hg3)).trans ((Gr.snoc _ _).trans ((Gr.snoc _ _).trans (Gr.snoc _ _)))⟩
end Go.Proofs.Ytmgofjgfmcmceaa
end
section
/- The law: ErePrints. -/
namespace Go.Proofs.Ytmgofjgfmcmceaa
open Go.RowKit
set_option maxRecDepth 4000
set_option maxHeartbeats 4000000

theorem lv_le : ∀ (d : Nat) (T : Tr), T.ht ≤ d → T.lv ≤ ((2 ^ d : Nat) : Int) := by
  intro d
  induction d with
  | zero => intro T h; cases T with | node k s l => simp [Tr.ht] at h
  | succ d ih =>
    intro T h
    cases T with
    | node k s l =>
      simp only [Tr.ht] at h
      have hp : 1 ≤ 2 ^ d := Nat.one_le_two_pow
      have h2 : 2 ^ (d + 1) = 2 ^ d + 2 ^ d := by rw [Nat.pow_succ]; omega
      match l, h with
      | [], _ => simp only [Tr.lv, lvL]; omega
      | [a], h =>
        have := ih a (by simp only [htL] at h; omega)
        simp only [Tr.lv, lvL]; omega
      | a :: b :: l, h =>
        have := ih a (by simp only [htL] at h; omega)
        have := ih b (by simp only [htL] at h; omega)
        simp only [Tr.lv, lvL]; omega
theorem dp_le : ∀ (d : Nat) (T : Tr), T.ht ≤ d → T.dp ≤ (d : Int) := by
  intro d
  induction d with
  | zero => intro T h; cases T with | node k s l => simp [Tr.ht] at h
  | succ d ih =>
    intro T h
    cases T with
    | node k s l =>
      simp only [Tr.ht] at h
      match l, h with
      | [], _ => simp only [Tr.dp, dpL]; omega
      | [a], h =>
        have := ih a (by simp only [htL] at h; omega)
        simp only [Tr.dp, dpL]; omega
      | a :: b :: l, h =>
        have := ih a (by simp only [htL] at h; omega)
        have := ih b (by simp only [htL] at h; omega)
        simp only [Tr.dp, dpL]; omega
theorem nest_le : ∀ (d : Nat) (T : Tr), T.ht ≤ d → T.nest ≤ 2 * (d : Int) := by
  intro d
  induction d with
  | zero => intro T h; cases T with | node k s l => simp [Tr.ht] at h
  | succ d ih =>
    intro T h
    cases T with
    | node k s l =>
      simp only [Tr.ht] at h
      have hg : nestL k l ≤ 2 * ((d + 1 : Nat) : Int) := by
        match l, h with
        | [], _ => simp only [nestL]; omega
        | [a], h =>
          have := ih a (by simp only [htL] at h; omega)
          simp only [nestL]; omega
        | [a, b], h =>
          have := ih a (by simp only [htL] at h; omega)
          have := ih b (by simp only [htL] at h; omega)
          simp only [nestL]; split <;> omega
        | _ :: _ :: _ :: _, _ => simp only [nestL]; omega
      simp only [Tr.nest]; split <;> omega
theorem setT_len (s : S4) : (setT s).length ≤ 1026 := by
  unfold setT
  split
  · simp
  · split
    · simp [octL]
    · have hfl : ∀ l : List Nat, (l.flatMap octL).length = 4 * l.length := by
        intro l
        induction l with
        | nil => rfl
        | cons x l ih => rw [List.flatMap_cons, List.length_append, ih, List.length_cons]; simp [octL]; omega
      have hb : s.bytes.length ≤ 256 := by
        have := List.length_filter_le s.has (List.range 256)
        simpa [S4.bytes] using this
      rw [List.length_cons, List.length_append, hfl]; simp; omega
theorem txt_le : ∀ (d : Nat) (T : Tr), T.ht ≤ d → T.txt.length + 8 ≤ 1100 * 2 ^ d := by
  intro d
  induction d with
  | zero => intro T h; cases T with | node k s l => simp [Tr.ht] at h
  | succ d ih =>
    intro T h
    cases T with
    | node k s l =>
      simp only [Tr.ht] at h
      have hp : 1 ≤ 2 ^ d := Nat.one_le_two_pow
      have h2 : 2 ^ (d + 1) = 2 ^ d + 2 ^ d := by rw [Nat.pow_succ]; omega
      have hs := setT_len s
      have hg : (txtL k l).length + 8 ≤ 1100 * 2 ^ (d + 1) := by
        match l, h with
        | [], _ => simp only [txtL, List.length_nil]; omega
        | [a], h =>
          have := ih a (by simp only [htL] at h; omega)
          simp only [txtL, List.length_cons, List.length_append, List.length_nil]; omega
        | [a, b], h =>
          have := ih a (by simp only [htL] at h; omega)
          have := ih b (by simp only [htL] at h; omega)
          simp only [txtL]; split <;> simp only [List.length_cons, List.length_append, List.length_nil] <;> omega
        | _ :: _ :: _ :: _, _ => simp only [txtL, List.length_nil]; omega
      simp only [Tr.txt]
      split
      · simp; omega
      · split
        · omega
        · split
          · simp; omega
          · split
            · simp; omega
            · exact hg

theorem bin_bneq {x y : Operand} {a b : Bool} : binR X.P .neq 4 x y (.bool a) (.bool b) = some (.bool (!(a == b))) := by
  cases a <;> cases b <;> (refine Eq.trans ?_ (Eq.refl _); kernel_rfl)
/-- Texts. -/
def IsTexts (H : Hp) (v : Value) : Prop := (∃ c, v = .slice none 0 c) ∨ ∃ (tb off c n : Nat) (wr : Bool) (cells : List Value), v = .slice (some ⟨tb, off, none⟩) n c ∧ getO H tb = some ⟨wr, 1, cells⟩ ∧ off + n ≤ cells.length ∧ n ≤ 1048576 ∧ ∀ i, i < n → ∃ u, cells[off + i]? = some u ∧ IsBytes H u
theorem IsTexts.gr {H H1 : Hp} {v : Value} (h : IsTexts H v) (hg : Gr H H1) : IsTexts H1 v := by
  rcases h with h | ⟨tb, off, c, n, wr, cells, h1, h2, h3, h4, h5⟩
  · exact .inl h
  · exact .inr ⟨tb, off, c, n, wr, cells, h1, (hg.2 tb (getO_lt h2)).trans h2, h3, h4, fun i hi => let ⟨u, e1, e2⟩ := h5 i hi; ⟨u, e1, e2.gr hg⟩⟩

theorem in_loop (lim : Nat) (R : Value → Hp → Prop) {T : Tr} (hT : Ok T) (tv : Value) (p q : Option Addr) (n m : Nat) (x : List UInt8) (hx : x.length ≤ 1000) (S S' : Nat → Prop) (i : Nat) (hi : i ≤ 1000) : ∀ (j k : Nat) (H : Hp) (t : List TV), k + j = x.length + 1 → lim ≤ H.length → IsRe H S T (reC T.k T.s p n) → IsRe H S' T (reC T.k T.s q m) →
    clrF [2, 7, 9, 12, 13, 14] 0 t = (.undef :: .undef :: .val tv :: .undef :: .undef :: .undef :: .undef :: .box (reC T.k T.s p n) :: .undef :: .box (reC T.k T.s q m) :: .undef :: .undef :: .val (.int .i64 (i : Int)) :: .val (.string (bs x)) :: .val (.int .i64 (k : Int)) :: .undef :: .undef :: .undef :: .undef :: .undef :: .undef :: .undef :: .undef :: .undef :: .undef :: .undef :: .undef :: .undef :: .undef :: .undef :: .undef :: .undef :: .undef :: .undef :: .undef :: .undef :: .undef :: .undef :: .undef :: .undef :: .undef :: .undef :: .undef :: .undef :: .undef :: .undef :: .undef :: .undef :: .undef :: .undef :: .undef :: .undef :: .undef :: .undef :: .undef :: .undef :: .undef :: .undef :: .undef :: .undef :: .undef :: .undef :: .undef :: .undef :: .undef :: .undef :: .undef :: .undef :: .undef :: .undef :: .undef :: .undef :: .undef :: .undef :: .undef :: .undef :: .undef :: .undef :: .undef :: .undef :: .undef :: .undef :: .undef :: .undef :: .undef :: .undef :: .undef :: .undef :: .undef :: .undef :: .undef :: []) →
    (∀ H1 t', Gr H H1 → clrF [2, 7, 9, 12] 0 t' = (.undef :: .undef :: .val tv :: .undef :: .undef :: .undef :: .undef :: .box (reC T.k T.s p n) :: .undef :: .box (reC T.k T.s q m) :: .undef :: .undef :: .val (.int .i64 ((i + 1 : Nat) : Int)) :: .undef :: .undef :: .undef :: .undef :: .undef :: .undef :: .undef :: .undef :: .undef :: .undef :: .undef :: .undef :: .undef :: .undef :: .undef :: .undef :: .undef :: .undef :: .undef :: .undef :: .undef :: .undef :: .undef :: .undef :: .undef :: .undef :: .undef :: .undef :: .undef :: .undef :: .undef :: .undef :: .undef :: .undef :: .undef :: .undef :: .undef :: .undef :: .undef :: .undef :: .undef :: .undef :: .undef :: .undef :: .undef :: .undef :: .undef :: .undef :: .undef :: .undef :: .undef :: .undef :: .undef :: .undef :: .undef :: .undef :: .undef :: .undef :: .undef :: .undef :: .undef :: .undef :: .undef :: .undef :: .undef :: .undef :: .undef :: .undef :: .undef :: .undef :: .undef :: .undef :: .undef :: .undef :: .undef :: .undef :: .undef :: .undef :: []) → RUN X 3 lim (fun t1 H1 => ∃ v, resultsA X.P Try.f3 t1 = some v ∧ R v H1) [.blk 0, .code c3_rrrrrrrr] (.loop c3_rrrrrrrlrbo) t' H1) →
    RUN X 3 lim (fun t1 H1 => ∃ v, resultsA X.P Try.f3 t1 = some v ∧ R v H1) [.blk 2, .blk 1, .code c3_rrrrrrrlrborr, .lp c3_rrrrrrrlrbo, .blk 0, .code c3_rrrrrrrr] (.loop c3_rrrrrrrlrborlbrrbo) t H
  | 0, k, H, t, hk, hlim, h1, h2, ht, hK => by
    have hz : (bs x).size = x.length := bs_size x
    have e1 : decide ((k : Int) ≤ (x.length : Int)) = false := by simp; omega
    have w1 : IntKind.i64.wrap ((i : Int) + 1) = ((i + 1 : Nat) : Int) := by rw [IntWalk.i64_in _ (by omega)]; omega
    unfold reC at ht hK
    (refine run_loopk (b := c3_rrrrrrrlrborlbrrbo) rfl keep3_15 ?_; rw [ht])
    refine rS c3_rrrrrrrlrborlbrrbol c3_rrrrrrrlrborlbrrbor rfl ?_
    refine rS c3_rrrrrrrlrborlbrrboll c3_rrrrrrrlrborlbrrbolr rfl ?_
    refine run_region rfl ?_
    simp only [sX, simprocAttr, -List.reduceReplicate, hz, e1]
    refine rF c3_rrrrrrrlrborlbrrbolrt c3_rrrrrrrlrborlbrrbolre rfl rfl ?_
    refine run_exit rfl ?_
    simp only [sP, Nat.reduceEqDiff, if_true, if_false, reduceCtorEq]
    refine run_region rfl ?_
    simp only [sX, simprocAttr, -List.reduceReplicate, w1]
    exact hK _ _ (Gr.refl _) (by simp only [sC, Nat.reduceBEq, Nat.reduceAdd])
  | j + 1, k, H, t, hk, hlim, h1, h2, ht, hK => by
    have hz : (bs x).size = x.length := bs_size x
    have e1 : decide ((k : Int) ≤ (x.length : Int)) = true := by simp; omega
    have w1 : IntKind.i64.wrap ((k : Int) + 1) = ((k + 1 : Nat) : Int) := by rw [IntWalk.i64_in _ (by omega)]; omega
    obtain ⟨a, o, hat⟩ := at_ok hT x hx k (by omega)
    have ea : decide (a = a) = true := by simp
    have eo : (o == o) = true := by simp
    have ht' := ht
    unfold reC at ht'
    unfold reV at hat
    rw [ht'] at ht
    clear ht
    have ht := ht'
    (refine run_loopk (b := c3_rrrrrrrlrborlbrrbo) rfl keep3_15 ?_; rw [ht])
    refine rS c3_rrrrrrrlrborlbrrbol c3_rrrrrrrlrborlbrrbor rfl ?_
    refine rS c3_rrrrrrrlrborlbrrboll c3_rrrrrrrlrborlbrrbolr rfl ?_
    refine run_region rfl ?_
    simp only [sX, simprocAttr, -List.reduceReplicate, hz, e1]
    refine rT c3_rrrrrrrlrborlbrrbolrt c3_rrrrrrrlrborlbrrbolre rfl rfl ?_
    refine run_skip rfl ?_
    simp only [sP]
    refine rS c3_rrrrrrrlrborlbrrborl c3_rrrrrrrlrborlbrrborr rfl ?_
    refine run_block (b := c3_rrrrrrrlrborlbrrborlb) rfl ?_
    refine rS c3_rrrrrrrlrborlbrrborlbl c3_rrrrrrrlrborlbrrborlbr rfl ?_
    refine run_region rfl ?_
    simp only [sX, simprocAttr, -List.reduceReplicate]
    refine call_of (hat _ _ S p n hlim h1) ?_
    rintro v H1 ⟨rfl, hg1⟩
    simp only [sX, simprocAttr, -List.reduceReplicate]
    refine rS c3_rrrrrrrlrborlbrrborlbrl c3_rrrrrrrlrborlbrrborlbrr rfl ?_
    refine run_region rfl ?_
    simp only [sX, simprocAttr, -List.reduceReplicate]
    refine call_of (hat _ _ S' q m (Nat.le_trans hlim hg1.1) (h2.gr hg1)) ?_
    rintro v H2 ⟨rfl, hg2⟩
    simp only [sX, simprocAttr, -List.reduceReplicate]
    refine rS c3_rrrrrrrlrborlbrrborlbrrl c3_rrrrrrrlrborlbrrborlbrrr rfl ?_
    refine run_regionG rfl c3_rrrrrrrlrborlbrrborlbrrl_gs ?_
    simp only [sX, simprocAttr, -List.reduceReplicate, bin_bneq]
    refine rF c3_rrrrrrrlrborlbrrborlbrrrt c3_rrrrrrrlrborlbrrborlbrrre rfl rfl ?_
    refine run_skip rfl ?_
    simp only [sP]
    refine run_region rfl ?_
    simp only [sX, simprocAttr, -List.reduceReplicate, w1]
    exact in_loop lim R hT tv p q n m x hx S S' i hi j (k + 1) H2 _ (by omega) (Nat.le_trans hlim (Nat.le_trans hg1.1 hg2.1)) ((h1.gr hg1).gr hg2) ((h2.gr hg1).gr hg2) (by unfold reC; simp only [sC, Nat.reduceBEq, Nat.reduceAdd]) (fun H3 t' hg3 ht3 => hK H3 t' ((hg1.trans hg2).trans hg3) ht3)

theorem out_loop (lim : Nat) (R : Value → Hp → Prop) {T : Tr} (hT : Ok T) (p q : Option Addr) (n m : Nat) (S S' : Nat → Prop) (tb off c N : Nat) (hR : Hp → Prop) (hRR : ∀ H1, hR H1 → R (.bool true) H1) (hRg : ∀ H H1, hR H → Gr H H1 → hR H1) : ∀ (j I : Nat) (H : Hp) (t : List TV), I + j = 4 → lim ≤ H.length → hR H → IsRe H S T (reC T.k T.s p n) → IsRe H S' T (reC T.k T.s q m) →
    (∃ wr cells, getO H tb = some ⟨wr, 1, cells⟩ ∧ off + N ≤ cells.length ∧ N ≤ 1048576 ∧ ∀ i, i < N → ∃ u, cells[off + i]? = some u ∧ IsBytes H u) →
    clrF [2, 7, 9, 12] 0 t = (.undef :: .undef :: .val (.slice (some ⟨tb, off, none⟩) N c) :: .undef :: .undef :: .undef :: .undef :: .box (reC T.k T.s p n) :: .undef :: .box (reC T.k T.s q m) :: .undef :: .undef :: .val (.int .i64 (I : Int)) :: .undef :: .undef :: .undef :: .undef :: .undef :: .undef :: .undef :: .undef :: .undef :: .undef :: .undef :: .undef :: .undef :: .undef :: .undef :: .undef :: .undef :: .undef :: .undef :: .undef :: .undef :: .undef :: .undef :: .undef :: .undef :: .undef :: .undef :: .undef :: .undef :: .undef :: .undef :: .undef :: .undef :: .undef :: .undef :: .undef :: .undef :: .undef :: .undef :: .undef :: .undef :: .undef :: .undef :: .undef :: .undef :: .undef :: .undef :: .undef :: .undef :: .undef :: .undef :: .undef :: .undef :: .undef :: .undef :: .undef :: .undef :: .undef :: .undef :: .undef :: .undef :: .undef :: .undef :: .undef :: .undef :: .undef :: .undef :: .undef :: .undef :: .undef :: .undef :: .undef :: .undef :: .undef :: .undef :: .undef :: .undef :: .undef :: []) →
    RUN X 3 lim (fun t1 H1 => ∃ v, resultsA X.P Try.f3 t1 = some v ∧ R v H1) [.blk 0, .code c3_rrrrrrrr] (.loop c3_rrrrrrrlrbo) t H
  | 0, I, H, t, hI, hlim, hr, h1, h2, htx, ht => by
    have e2 : decide ((I : Int) < 4) = false := by simp; omega
    unfold reC at ht
    by_cases h : I < N
    · have e1 : decide ((I : Int) < (N : Int)) = true := by simp; omega
      (refine run_loopk (b := c3_rrrrrrrlrbo) rfl keep3_11 ?_; rw [ht])
      refine rS c3_rrrrrrrlrbol c3_rrrrrrrlrbor rfl ?_
      refine rS c3_rrrrrrrlrboll c3_rrrrrrrlrbolr rfl ?_
      refine run_regionG rfl c3_rrrrrrrlrboll_gs ?_
      simp only [sX, simprocAttr, -List.reduceReplicate, e1, e2]
      refine rF c3_rrrrrrrlrbolrt c3_rrrrrrrlrbolre rfl rfl ?_
      refine run_exit rfl ?_
      simp only [sP, if_true]
      refine rS c3_rrrrrrrrl c3_rrrrrrrrr rfl ?_
      refine run_region rfl ?_
      simp only [sX, simprocAttr, -List.reduceReplicate]
      refine run_ret rfl ?_
      (simp only [sP]; refine ⟨_, (by rw [resultsA_eq Try.results3]; simp only [sR, List.mapM_cons, List.mapM_nil]; rfl), ?_⟩)
      exact hRR _ hr
    · have e1 : decide ((I : Int) < (N : Int)) = false := by simp; omega
      (refine run_loopk (b := c3_rrrrrrrlrbo) rfl keep3_11 ?_; rw [ht])
      refine rS c3_rrrrrrrlrbol c3_rrrrrrrlrbor rfl ?_
      refine rS c3_rrrrrrrlrboll c3_rrrrrrrlrbolr rfl ?_
      refine run_regionG rfl c3_rrrrrrrlrboll_gs ?_
      simp only [sX, simprocAttr, -List.reduceReplicate, e1]
      refine rF c3_rrrrrrrlrbolrt c3_rrrrrrrlrbolre rfl rfl ?_
      refine run_exit rfl ?_
      simp only [sP, if_true]
      refine rS c3_rrrrrrrrl c3_rrrrrrrrr rfl ?_
      refine run_region rfl ?_
      simp only [sX, simprocAttr, -List.reduceReplicate]
      refine run_ret rfl ?_
      (simp only [sP]; refine ⟨_, (by rw [resultsA_eq Try.results3]; simp only [sR, List.mapM_cons, List.mapM_nil]; rfl), ?_⟩)
      exact hRR _ hr
  | j + 1, I, H, t, hI, hlim, hr, h1, h2, htx, ht => by
    have htO := ht
    unfold reC at ht
    by_cases h : I < N
    · have e1 : decide ((I : Int) < (N : Int)) = true := by simp; omega
      have e2 : decide ((I : Int) < 4) = true := by simp; omega
      have e3 : decide (0 ≤ (I : Int) ∧ (I : Int) < (N : Int)) = true := by simp; omega
      obtain ⟨wr, cells, ho, hl, hN, hc⟩ := htx
      obtain ⟨u, hu, hub⟩ := hc I h
      have lo := getO_lt ho
      (refine run_loopk (b := c3_rrrrrrrlrbo) rfl keep3_11 ?_; rw [ht])
      refine rS c3_rrrrrrrlrbol c3_rrrrrrrlrbor rfl ?_
      refine rS c3_rrrrrrrlrboll c3_rrrrrrrlrbolr rfl ?_
      refine run_regionG rfl c3_rrrrrrrlrboll_gs ?_
      simp only [sX, simprocAttr, -List.reduceReplicate, e1, e2]
      refine rT c3_rrrrrrrlrbolrt c3_rrrrrrrlrbolre rfl rfl ?_
      refine run_skip rfl ?_
      simp only [sP]
      refine rS c3_rrrrrrrlrborl c3_rrrrrrrlrborr rfl ?_
      refine run_block (b := c3_rrrrrrrlrborlb) rfl ?_
      refine rS c3_rrrrrrrlrborlbl c3_rrrrrrrlrborlbr rfl ?_
      refine run_region rfl ?_
      simp only [sX, simprocAttr, -List.reduceReplicate, e3, ho, hu]
      refine call_of (letters_ok _ _ u hub) ?_
      rintro v H2 ⟨x, hx, rfl, hh⟩
      subst hh
      simp only [sX, simprocAttr, -List.reduceReplicate]
      refine rS c3_rrrrrrrlrborlbrl c3_rrrrrrrlrborlbrr rfl ?_
      refine run_region rfl ?_
      simp only [sX, simprocAttr, -List.reduceReplicate]
      refine run_block (b := c3_rrrrrrrlrborlbrrb) rfl ?_
      refine in_loop lim R hT (.slice (some ⟨tb, off, none⟩) N c) p q n m x (by omega) S S' I (by omega) (x.length + 1) 0 _ _ (by omega) hlim h1 h2 (by unfold reC; simp only [sC, Nat.reduceBEq, Nat.reduceAdd]; rfl) ?_
      intro H3 t' hg3 ht3
      exact out_loop lim R hT p q n m S S' tb off c N hR hRR hRg j (I + 1) H3 t' (by omega) (Nat.le_trans hlim hg3.1) (hRg _ _ hr hg3) (h1.gr hg3) (h2.gr hg3) ⟨wr, cells, (hg3.2 tb lo).trans ho, hl, hN, fun i hi => let ⟨u, e1, e2⟩ := hc i hi; ⟨u, e1, e2.gr hg3⟩⟩ ht3
    · have e1 : decide ((I : Int) < (N : Int)) = false := by simp; omega
      (refine run_loopk (b := c3_rrrrrrrlrbo) rfl keep3_11 ?_; rw [ht])
      refine rS c3_rrrrrrrlrbol c3_rrrrrrrlrbor rfl ?_
      refine rS c3_rrrrrrrlrboll c3_rrrrrrrlrbolr rfl ?_
      refine run_regionG rfl c3_rrrrrrrlrboll_gs ?_
      simp only [sX, simprocAttr, -List.reduceReplicate, e1]
      refine rF c3_rrrrrrrlrbolrt c3_rrrrrrrlrbolre rfl rfl ?_
      refine run_exit rfl ?_
      simp only [sP, if_true]
      refine rS c3_rrrrrrrrl c3_rrrrrrrrr rfl ?_
      refine run_region rfl ?_
      simp only [sX, simprocAttr, -List.reduceReplicate]
      refine run_ret rfl ?_
      (simp only [sP]; refine ⟨_, (by rw [resultsA_eq Try.results3]; simp only [sR, List.mapM_cons, List.mapM_nil]; rfl), ?_⟩)
      exact hRR _ hr
end Go.Proofs.Ytmgofjgfmcmceaa
end
section
/- The law answers true. -/
namespace Go.Proofs.Ytmgofjgfmcmceaa
open Go.RowKit
set_option maxRecDepth 4000
set_option maxHeartbeats 4000000

theorem empty_eq : ((bs []).toList == (⟨#[]⟩ : ByteArray).toList) = true := by
  have : bs [] = ⟨#[]⟩ := rfl
  rw [this]; exact beq_self_eq_true _
theorem after_run (lim : Nat) (R : Value → Hp → Prop) (H0 H : Hp) (T : Tr) (p : Option Addr) (n : Nat) (tv v0 : Value) (b : Bool) (c3 : List Value) (j19 j20 j21 j22 j23 : Value) (S : Nat → Prop) (hlim : lim ≤ H0.length) (hg : Gr H0 H) (hI : IsRe H S T (reC T.k T.s p n)) (hh : T.ht ≤ 4) (htx : IsTexts H tv)
    (hR : ∀ H1, Gr H0 H1 → R (.bool true) H1) :
    RUN X 3 lim (fun t1 H1 => ∃ v, resultsA X.P Try.f3 t1 = some v ∧ R v H1) [] c3_rrr (.val v0 :: .val (.bool b) :: .val tv :: .box c3 :: .val undef :: .val undef :: .val (.bool false) :: .box (reC T.k T.s p n) :: .val undef :: .val undef :: .val undef :: .val undef :: .val undef :: .val undef :: .val undef :: .val undef :: .val undef :: .val undef :: .val undef :: .val j19 :: .val j20 :: .val j21 :: .val j22 :: .val j23 :: .val undef :: .val undef :: .val undef :: .val undef :: .val undef :: .val undef :: .val undef :: .val undef :: .val undef :: .val undef :: .val undef :: .val undef :: .val undef :: .val undef :: .val undef :: .val undef :: .val undef :: .val undef :: .val undef :: .val undef :: .val undef :: .val undef :: .val undef :: .val undef :: .val undef :: .val undef :: .val undef :: .val undef :: .val undef :: .val undef :: .val undef :: .val undef :: .val undef :: .val undef :: .val undef :: .val undef :: .val undef :: .val undef :: .val undef :: .val undef :: .val undef :: .val undef :: .val undef :: .val undef :: .val undef :: .val undef :: .val undef :: .val undef :: .val undef :: .val undef :: .val undef :: .val undef :: .val undef :: .val undef :: .val undef :: .val undef :: .val undef :: .val undef :: .val undef :: .val undef :: .val undef :: .val undef :: .val undef :: .val undef :: .val undef :: .val undef :: .val undef :: []) H := by
  have hlv := lv_le 4 T hh
  have hdp := dp_le 4 T hh
  have hne := nest_le 4 T hh
  have htl := txt_le 4 T hh
  have hp := fun lim => print_ok lim H S T p n hI (by omega) (by omega) (by omega)
  have hk := fun lim (H1 : Hp) (h : lim ≤ H1.length) => known_ok lim H1 h
  have hrr := fun lim (H1 : Hp) (h : Gr H H1) => rightR lim H1 S T p n (hI.gr h) (by omega) (by omega)
  have hlm : lim ≤ H.length := Nat.le_trans hlim hg.1
  cases hs : T.shp with
  | false =>
    rw [hs] at hp hrr
    have ee := empty_eq
    unfold reV at hp hrr
    unfold reC
    refine rS c3_rrrl c3_rrrr rfl ?_
    refine run_region rfl ?_
    simp only [sX, simprocAttr, -List.reduceReplicate]
    refine call_of (hp _) ?_
    rintro v H1 ⟨rfl, hg1⟩
    simp only [sX, simprocAttr, -List.reduceReplicate]
    refine rS c3_rrrrl c3_rrrrr rfl ?_
    refine rS c3_rrrrll c3_rrrrlr rfl ?_
    refine run_regionG rfl c3_rrrrll_gs ?_
    simp only [sX, simprocAttr, -List.reduceReplicate]
    refine call_of (hk _ _ (Nat.le_trans hlm hg1.1)) ?_
    rintro v H2 ⟨rfl, hg2⟩
    simp only [sX, simprocAttr, -List.reduceReplicate]
    refine call_of (hrr _ _ (hg1.trans hg2)) ?_
    rintro v H3 ⟨rfl, h3⟩
    subst h3
    simp only [sX, simprocAttr, -List.reduceReplicate]
    refine rT c3_rrrrlrt c3_rrrrlre rfl rfl ?_
    refine rS c3_rrrrlrtl c3_rrrrlrtr rfl ?_
    refine run_regionG rfl c3_rrrrlrtl_gs ?_
    simp only [sX, simprocAttr, -List.reduceReplicate]
    refine call_of (hk _ _ (Nat.le_trans hlm (hg1.trans hg2).1)) ?_
    rintro v H4 ⟨rfl, hg4⟩
    simp only [sX, simprocAttr, -List.reduceReplicate, ee]
    refine run_ret rfl ?_
    (simp only [sP]; refine ⟨_, (by rw [resultsA_eq Try.results3]; simp only [sR, List.mapM_cons, List.mapM_nil]; rfl), ?_⟩)
    exact hR _ (hg.trans (hg1.trans (hg2.trans hg4)))
  | true =>
    have hok := ok_of_shp 4 T hh hs
    rw [hs] at hp hrr
    simp only [if_true] at hp
    have hpa := fun lim (H1 : Hp) (h : lim ≤ H1.length) => parse_ok lim H1 hok (by omega) (by omega) (by omega) (by omega) h (by omega)
    rcases htx with ⟨c, rfl⟩ | ⟨tb, off, c, N, wr, cells, rfl, ho, hl, hN, hcs⟩
    · unfold reV at hp hrr hpa
      unfold reC
      refine rS c3_rrrl c3_rrrr rfl ?_
      refine run_region rfl ?_
      simp only [sX, simprocAttr, -List.reduceReplicate]
      refine call_of (hp _) ?_
      rintro v H1 ⟨rfl, hg1⟩
      simp only [sX, simprocAttr, -List.reduceReplicate]
      refine rS c3_rrrrl c3_rrrrr rfl ?_
      refine rS c3_rrrrll c3_rrrrlr rfl ?_
      refine run_regionG rfl c3_rrrrll_gs ?_
      simp only [sX, simprocAttr, -List.reduceReplicate]
      refine call_of (hk _ _ (Nat.le_trans hlm hg1.1)) ?_
      rintro v H2 ⟨rfl, hg2⟩
      simp only [sX, simprocAttr, -List.reduceReplicate]
      refine call_of (hrr _ _ (hg1.trans hg2)) ?_
      rintro v H3 ⟨rfl, h3⟩
      subst h3
      simp only [sX, simprocAttr, -List.reduceReplicate]
      refine rF c3_rrrrlrt c3_rrrrlre rfl rfl ?_
      refine run_skip rfl ?_
      simp only [sP]
      refine rS c3_rrrrrl c3_rrrrrr rfl ?_
      refine run_region rfl ?_
      simp only [sX, simprocAttr, -List.reduceReplicate]
      refine call_of (hpa _ _ (Nat.le_trans hlm (hg1.trans hg2).1)) ?_
      rintro v H4 ⟨q, m, rfl, hI4, hg4⟩
      simp only [sX, simprocAttr, -List.reduceReplicate]
      refine rS c3_rrrrrrl c3_rrrrrrr rfl ?_
      refine rS c3_rrrrrrll c3_rrrrrrlr rfl ?_
      refine run_region rfl ?_
      simp only [sX, simprocAttr, -List.reduceReplicate]
      refine rF c3_rrrrrrlrt c3_rrrrrrlre rfl rfl ?_
      refine run_skip rfl ?_
      simp only [sP]
      refine rS c3_rrrrrrrl c3_rrrrrrrr rfl ?_
      refine rS c3_rrrrrrrll c3_rrrrrrrlr rfl ?_
      refine run_region rfl ?_
      simp only [sX, simprocAttr, -List.reduceReplicate]
      refine run_block (b := c3_rrrrrrrlrb) rfl ?_
      (refine run_loopk (b := c3_rrrrrrrlrbo) rfl keep3_11 ?_; simp only [sC, Nat.reduceBEq, Nat.reduceAdd])
      refine rS c3_rrrrrrrlrbol c3_rrrrrrrlrbor rfl ?_
      refine rS c3_rrrrrrrlrboll c3_rrrrrrrlrbolr rfl ?_
      refine run_regionG rfl c3_rrrrrrrlrboll_gs ?_
      simp only [sX, simprocAttr, -List.reduceReplicate]
      refine rF c3_rrrrrrrlrbolrt c3_rrrrrrrlrbolre rfl rfl ?_
      refine run_exit rfl ?_
      simp only [sP, if_true]
      refine rS c3_rrrrrrrrl c3_rrrrrrrrr rfl ?_
      refine run_region rfl ?_
      simp only [sX, simprocAttr, -List.reduceReplicate]
      refine run_ret rfl ?_
      (simp only [sP]; refine ⟨_, (by rw [resultsA_eq Try.results3]; simp only [sR, List.mapM_cons, List.mapM_nil]; rfl), ?_⟩)
      exact hR _ (hg.trans (hg1.trans (hg2.trans hg4)))
    · unfold reV at hp hrr hpa
      unfold reC
      refine rS c3_rrrl c3_rrrr rfl ?_
      refine run_region rfl ?_
      simp only [sX, simprocAttr, -List.reduceReplicate]
      refine call_of (hp _) ?_
      rintro v H1 ⟨rfl, hg1⟩
      simp only [sX, simprocAttr, -List.reduceReplicate]
      refine rS c3_rrrrl c3_rrrrr rfl ?_
      refine rS c3_rrrrll c3_rrrrlr rfl ?_
      refine run_regionG rfl c3_rrrrll_gs ?_
      simp only [sX, simprocAttr, -List.reduceReplicate]
      refine call_of (hk _ _ (Nat.le_trans hlm hg1.1)) ?_
      rintro v H2 ⟨rfl, hg2⟩
      simp only [sX, simprocAttr, -List.reduceReplicate]
      refine call_of (hrr _ _ (hg1.trans hg2)) ?_
      rintro v H3 ⟨rfl, h3⟩
      subst h3
      simp only [sX, simprocAttr, -List.reduceReplicate]
      refine rF c3_rrrrlrt c3_rrrrlre rfl rfl ?_
      refine run_skip rfl ?_
      simp only [sP]
      refine rS c3_rrrrrl c3_rrrrrr rfl ?_
      refine run_region rfl ?_
      simp only [sX, simprocAttr, -List.reduceReplicate]
      refine call_of (hpa _ _ (Nat.le_trans hlm (hg1.trans hg2).1)) ?_
      rintro v H4 ⟨q, m, rfl, hI4, hg4⟩
      simp only [sX, simprocAttr, -List.reduceReplicate]
      refine rS c3_rrrrrrl c3_rrrrrrr rfl ?_
      refine rS c3_rrrrrrll c3_rrrrrrlr rfl ?_
      refine run_region rfl ?_
      simp only [sX, simprocAttr, -List.reduceReplicate]
      refine rF c3_rrrrrrlrt c3_rrrrrrlre rfl rfl ?_
      refine run_skip rfl ?_
      simp only [sP]
      refine rS c3_rrrrrrrl c3_rrrrrrrr rfl ?_
      refine rS c3_rrrrrrrll c3_rrrrrrrlr rfl ?_
      refine run_region rfl ?_
      simp only [sX, simprocAttr, -List.reduceReplicate]
      refine run_block (b := c3_rrrrrrrlrb) rfl ?_
      have hga := hg1.trans (hg2.trans hg4)
      refine out_loop lim R hok p q n m S _ tb off c N (fun H1 => Gr H0 H1) hR (fun H1 H2 a b => a.trans b) 4 0 H4 _ rfl (Nat.le_trans hlm hga.1) (hg.trans hga) (hI.gr hga) hI4 ⟨wr, cells, (hga.2 tb (getO_lt ho)).trans ho, hl, hN, fun i hi => let ⟨u, e1, e2⟩ := hcs i hi; ⟨u, e1, e2.gr hga⟩⟩ (by unfold reC; simp only [sC, Nat.reduceBEq, Nat.reduceAdd]; rfl)

theorem law_ok (lim : Nat) (H : Hp) (r : Raw) (cs : List Value) (b : Bool) (tv : Value) (hlim : lim ≤ H.length) (hr : IsRaw H r cs) (htx : IsTexts H tv) :
    CallEx X lim 3 [.agg cs.toArray, .bool b, tv] H fun v H1 => v = .bool true ∧ Gr H H1 := by
  have hform : ∃ rk rn sl, cs = [.int .i64 rk, .int .i64 rn, sl] ∧ isCell sl = true := by
    cases hr with
    | nil k n c => exact ⟨k, n, _, rfl, rfl⟩
    | cons k n kids b off c wr cells hb hl hm hk => exact ⟨k, n, _, rfl, rfl⟩
  obtain ⟨rk, rn, sl, rfl, hsl⟩ := hform
  have hA := fun lim => tw_ok 3 (by decide) r _ lim H hr
  have hB := fun lim (H' : Hp) (hg : Gr H H') => re_ok 3 (by decide) r _ lim H' (hr.gr hg)
  have e3 : ((3 : Nat) : Int) = 3 := rfl
  rw [e3] at hA
  simp only [e3] at hB
  cases b with
  | true =>
    (refine call_intro fun3 name3 body3 ?_; simp only [Try.ntmps3, List.map_cons, List.map_nil, List.length_cons, List.length_nil, Nat.zero_add, Nat.reduceAdd, Nat.reduceSub, List.replicate_succ, List.replicate_zero, List.cons_append, List.nil_append])
    refine rS c3_l c3_r rfl ?_
    refine run_region rfl ?_
    simp only [sX, simprocAttr, -List.reduceReplicate, hsl, pur3]
    refine rS c3_rl c3_rr rfl ?_
    refine run_region rfl ?_
    simp only [sX, simprocAttr, -List.reduceReplicate]
    refine call_of (hA _) ?_
    rintro v H1 ⟨T1, p1, n1, rfl, hT1, hg1, hh1⟩
    unfold reV
    simp only [sX, simprocAttr, -List.reduceReplicate]
    refine rS c3_rrl c3_rrr rfl ?_
    refine rS c3_rrll c3_rrlr rfl ?_
    refine run_region rfl ?_
    simp only [sX, simprocAttr, -List.reduceReplicate]
    refine rT c3_rrlrt c3_rrlre rfl rfl ?_
    refine run_region rfl ?_
    simp only [sX, simprocAttr, -List.reduceReplicate]
    refine call_of (hB _ _ hg1) ?_
    rintro v H2 ⟨T, p, n, rfl, hT, hg2, hh⟩
    unfold reV
    simp only [sX, simprocAttr, -List.reduceReplicate]
    exact after_run _ _ H H2 T p n tv _ true _ _ _ _ _ _ _ hlim (hg1.trans hg2) hT hh ((htx.gr hg1).gr hg2) (fun H1 h => ⟨rfl, h⟩)
  | false =>
    (refine call_intro fun3 name3 body3 ?_; simp only [Try.ntmps3, List.map_cons, List.map_nil, List.length_cons, List.length_nil, Nat.zero_add, Nat.reduceAdd, Nat.reduceSub, List.replicate_succ, List.replicate_zero, List.cons_append, List.nil_append])
    refine rS c3_l c3_r rfl ?_
    refine run_region rfl ?_
    simp only [sX, simprocAttr, -List.reduceReplicate, hsl, pur3]
    refine rS c3_rl c3_rr rfl ?_
    refine run_region rfl ?_
    simp only [sX, simprocAttr, -List.reduceReplicate]
    refine call_of (hA _) ?_
    rintro v H1 ⟨T, p, n, rfl, hT, hg1, hh⟩
    unfold reV
    simp only [sX, simprocAttr, -List.reduceReplicate]
    refine rS c3_rrl c3_rrr rfl ?_
    refine rS c3_rrll c3_rrlr rfl ?_
    refine run_region rfl ?_
    simp only [sX, simprocAttr, -List.reduceReplicate]
    refine rF c3_rrlrt c3_rrlre rfl rfl ?_
    refine run_skip rfl ?_
    simp only [sP]
    exact after_run _ _ H H1 T p n tv _ false _ _ _ _ _ _ _ hlim hg1 hT hh (htx.gr hg1) (fun H1 h => ⟨rfl, h⟩)
end Go.Proofs.Ytmgofjgfmcmceaa
end
section
/- The arguments, as objects that nobody writes. -/
namespace Go.Proofs.Ytmgofjgfmcmceaa
open Go.RowKit
set_option maxRecDepth 4000

def RO (W : World) (μ : Mu) (H : Hp) : Prop := HR μ H W ∧ ∀ b o, getO H b = some o → o.wr = false
def Stp (W : World) (H : Hp) (μ : Mu) (H' : Hp) (μ' : Mu) : Prop := Gr H H' ∧ Ext H.length μ μ' ∧ RO W μ' H'
theorem Stp.refl {W : World} {H : Hp} {μ : Mu} (h : RO W μ H) : Stp W H μ H μ := ⟨Gr.refl _, Ext.refl _ _, h⟩
theorem Stp.trans {W : World} {H H1 H2 : Hp} {μ μ1 μ2 : Mu} (h : Stp W H μ H1 μ1) (k : Stp W H1 μ1 H2 μ2) : Stp W H μ H2 μ2 := ⟨h.1.trans k.1, h.2.1.trans k.2.1 h.1.1, k.2.2⟩

/-- One object more. -/
theorem stp_push {W : World} {H : Hp} {μ : Mu} (h : RO W μ H) {blk off es : Nat} {C : Array Value} {T : TypeId} {fz : Nat × Nat} (hb : W.heap[blk]? = some (.cells C T fz)) (cells : List Value) (hl : off + cells.length ≤ C.size) (hc : ∀ (i : Nat) (x : Value), cells[i]? = some x → ∃ x' : Value, C[off + i]? = some x' ∧ VC μ H.length x x') :
    ∃ μ' : Mu, Stp W H μ (H ++ [some (⟨false, es, List.replicate off (.map none) ++ cells⟩ : AObj)]) μ' ∧ μ' H.length = ⟨blk, C.size, es⟩ := by
  have he : Ext H.length μ (fun b => if b = H.length then (⟨blk, C.size, es⟩ : BI) else μ b) := Ext.upd _ _ _
  refine ⟨_, ⟨Gr.snoc _ _, he, ?_, ?_⟩, by simp⟩
  · intro b o ho
    have hN : H.length ≤ (H ++ [some (⟨false, es, List.replicate off (.map none) ++ cells⟩ : AObj)]).length := by rw [len_snoc]; omega
    rcases getO_append ho with ⟨hlt, ho'⟩ | ⟨rfl, ho'⟩
    · obtain ⟨C0, T0, fz0, h1, h2, h3, h4, h5, h6⟩ := h.1 b o ho'
      have hne : b ≠ H.length := by omega
      simp only [if_neg hne]
      exact ⟨C0, T0, fz0, h1, h2, h3, h4, fun i x hx => let ⟨x', e1, e2⟩ := h5 i x hx; ⟨x', e1, e2.mono he hN⟩, h6⟩
    · simp only [Option.some.injEq] at ho'
      subst ho'
      simp only [if_true]
      refine ⟨C, T, fz, hb, by first | rfl | trivial, by first | rfl | trivial, by simp; omega, ?_, fun hw => by cases hw⟩
      intro i x hx
      by_cases hi : i < off
      · rw [List.getElem?_append_left (by simpa using hi), List.getElem?_replicate, if_pos hi] at hx
        simp only [Option.some.injEq] at hx
        subst hx
        exact ⟨C[i]'(by omega), by rw [Array.getElem?_eq_getElem (by omega)], trivial⟩
      · rw [List.getElem?_append_right (by simpa using hi)] at hx
        simp only [List.length_replicate] at hx
        obtain ⟨x', e1, e2⟩ := hc (i - off) x hx
        exact ⟨x', by rw [show i = off + (i - off) by omega]; exact e1, e2.mono he hN⟩
  · intro b o ho
    rcases getO_append ho with ⟨_, ho'⟩ | ⟨_, ho'⟩
    · exact h.2 b o ho'
    · simp only [Option.some.injEq] at ho'
      subst ho'; rfl

theorem add_eq {a : Addr} (h : a.spot = none) (n : Nat) : a.add n = ⟨a.block, a.off + n, none⟩ := by
  obtain ⟨b, o, s⟩ := a
  simp only at h
  subst h
  unfold Addr.add
  split <;> simp_all
theorem cell_arr {W : World} {a : Addr} {v : Value} (h : W.cell? a = some v) : ∃ C T fz, W.heap[a.block]? = some (.cells C T fz) ∧ C[a.off]? = some v ∧ a.spot = none := by
  have hs := World.cell?_spot h
  unfold World.cell? at h
  split at h
  · rename_i C T fz hC
    rw [hs] at h
    exact ⟨C, T, fz, hC, h, hs⟩
  · cases h

/-- How a row of cells is taken over. -/
def Elt (W : World) (Pred : Hp → List Value → Prop) (es : Nat) (row : List Value) : Prop := ∀ (H : Hp) (μ : Mu), RO W μ H → ∃ (H' : Hp) (μ' : Mu) (row' : List Value), Stp W H μ H' μ' ∧ row'.length = es ∧ VL μ' H'.length row' row ∧ Pred H' row'

theorem rows_build {W : World} {Pred : Hp → List Value → Prop} (hP : ∀ H H1 l, Pred H l → Gr H H1 → Pred H1 l) {es : Nat} {C : Array Value} {off : Nat} : ∀ (n : Nat), (∀ i, i < n → ∃ row : List Value, row.length = es ∧ (∀ j, j < es → C[off + i * es + j]? = row[j]?) ∧ Elt W Pred es row) →
    ∀ (H : Hp) (μ : Mu), RO W μ H → ∃ (H' : Hp) (μ' : Mu) (cells : List Value), Stp W H μ H' μ' ∧ cells.length = n * es ∧ (∀ (i : Nat) (x : Value), cells[i]? = some x → ∃ x' : Value, C[off + i]? = some x' ∧ VC μ' H'.length x x') ∧ ∀ i, i < n → Pred H' ((cells.drop (i * es)).take es)
  | 0, _, H, μ, h => ⟨H, μ, [], Stp.refl h, by simp, fun i x hx => by simp at hx, fun i hi => by omega⟩
  | n + 1, hr, H, μ, h => by
    obtain ⟨H1, μ1, cs, s1, hl, hc, hp⟩ := rows_build hP n (fun i hi => hr i (by omega)) H μ h
    obtain ⟨row, hrl, hrc, he⟩ := hr n (by omega)
    obtain ⟨H2, μ2, row', s2, hl', hv, hp'⟩ := he H1 μ1 s1.2.2
    refine ⟨H2, μ2, cs ++ row', s1.trans s2, by rw [List.length_append, hl, hl', Nat.add_mul]; omega, ?_, ?_⟩
    · intro i x hx
      by_cases hi : i < cs.length
      · rw [List.getElem?_append_left hi] at hx
        obtain ⟨x', e1, e2⟩ := hc i x hx
        exact ⟨x', e1, e2.mono s2.2.1 s2.1.1⟩
      · rw [List.getElem?_append_right (by omega)] at hx
        obtain ⟨x', e1, e2⟩ := hv.2 (i - cs.length) x hx
        have hj : i - cs.length < es := by
          rcases Nat.lt_or_ge (i - cs.length) row'.length with h | h
          · omega
          · rw [List.getElem?_eq_none h] at hx; cases hx
        refine ⟨x', ?_, e2⟩
        rw [← e1, ← hrc (i - cs.length) hj]
        congr 1; omega
    · intro i hi
      by_cases hin : i < n
      · have h1 : i * es + es ≤ cs.length := by rw [hl, ← Nat.succ_mul]; exact Nat.mul_le_mul_right _ (by omega)
        rw [List.drop_append_of_le_length (by omega), List.take_append_of_le_length (by simp; omega)]
        exact hP _ _ _ (hp i hin) s2.1
      · have : i = n := by omega
        subst this
        rw [← hl, List.drop_left, List.take_of_length_le (by omega)]
        exact hp'

/-- A slice of rows. -/
theorem slice_build {W : World} {Pred : Hp → List Value → Prop} (hP : ∀ H H1 l, Pred H l → Gr H H1 → Pred H1 l) {es : Nat} (hes : 1 ≤ es) {a : Addr} {len cap : Nat} (hlc : len ≤ cap) (hcap : 0 < cap)
    (hel : ∀ i, i < len → ∃ row : List Value, W.cells? 0 (a.add (i * es)) es = some row ∧ Elt W Pred es row) (hsp : ∀ j, j < cap → ∃ row : List Value, W.cells? 0 (a.add (j * es)) es = some row) :
    ∀ (H : Hp) (μ : Mu), RO W μ H → ∃ (H' : Hp) (μ' : Mu) (b off : Nat) (cells : List Value), Stp W H μ H' μ' ∧ VC μ' H'.length (.slice (some ⟨b, off, none⟩) len cap) (.slice (some a) len cap) ∧ getO H' b = some ⟨false, es, cells⟩ ∧ off + len * es ≤ cells.length ∧ ∀ i, i < len → Pred H' ((cells.drop (off + i * es)).take es) := by
  intro H μ h
  obtain ⟨row0, hr0⟩ := hsp 0 hcap
  obtain ⟨_, hl0, hc0⟩ := World.cells?_some hr0
  have ha0 : (a.add (0 * es)).add 0 = a := by simp [Addr.add]
  have h00 := hc0 0 (by omega)
  rw [ha0] at h00
  obtain ⟨v0, hv0⟩ : ∃ v, row0[0]? = some v := ⟨row0[0]'(by omega), List.getElem?_eq_getElem (by omega)⟩
  rw [hv0] at h00
  obtain ⟨C, T, fz, hC, _, hspot⟩ := cell_arr h00
  have hat : ∀ (i : Nat) (row : List Value), W.cells? 0 (a.add (i * es)) es = some row → row.length = es ∧ ∀ j, j < es → C[a.off + i * es + j]? = row[j]? := by
    intro i row hrow
    obtain ⟨_, hl, hc⟩ := World.cells?_some hrow
    refine ⟨hl, fun j hj => ?_⟩
    have := hc j hj
    rw [add_eq hspot, add_eq rfl] at this
    rw [← this]
    unfold World.cell?
    simp [hC]
  obtain ⟨H1, μ1, cs, s1, hl, hc, hp⟩ := rows_build (C := C) (off := a.off) hP len (fun i hi => by
    obtain ⟨row, h1, h2⟩ := hel i hi
    obtain ⟨h3, h4⟩ := hat i row h1
    exact ⟨row, h3, h4, h2⟩) H μ h
  obtain ⟨rowl, hrl⟩ := hsp (cap - 1) (by omega)
  obtain ⟨hll, hlc'⟩ := hat (cap - 1) rowl hrl
  have hsz : a.off + cap * es ≤ C.size := by
    have h1 := hlc' (es - 1) (by omega)
    rw [List.getElem?_eq_getElem (by omega : es - 1 < rowl.length)] at h1
    have h2 : a.off + (cap - 1) * es + (es - 1) < C.size := by
      rcases Nat.lt_or_ge (a.off + (cap - 1) * es + (es - 1)) C.size with h | h
      · exact h
      · rw [Array.getElem?_eq_none h] at h1; cases h1
    have h3 : cap * es = (cap - 1) * es + es := by
      rw [← Nat.succ_mul]; congr 1; omega
    omega
  have hle : len * es ≤ cap * es := Nat.mul_le_mul_right _ hlc
  obtain ⟨μ2, s2, hμ2⟩ := stp_push (es := es) s1.2.2 hC cs (by omega) hc
  refine ⟨_, μ2, H1.length, a.off, _, s1.trans s2, ⟨rfl, by rw [len_snoc]; exact Nat.lt_succ_self _, a.off, cap, ?_, .inl ⟨rfl, hlc, ?_⟩⟩, getO_append_new, by simp; omega, fun i hi => ?_⟩
  · rw [hμ2]
    obtain ⟨ab, ao, asp⟩ := a
    simp only at hspot
    subst hspot; rfl
  · rw [hμ2]; exact hsz
  · rw [List.drop_append, List.drop_eq_nil_of_le (by simp), List.nil_append, List.length_replicate, show a.off + i * es - a.off = i * es by omega]
    exact hP _ _ _ (hp i hi) s2.1
end Go.Proofs.Ytmgofjgfmcmceaa
end
section
/- What the row's reading says of the arguments, as objects. -/
namespace Go.Proofs.Ytmgofjgfmcmceaa
open Go.RowKit
set_option maxRecDepth 4000

theorem bulk_le {H : Type} {d : DataW H} {l : List (DataW H)} (h : d ∈ l) : Rows.uptoBulk d ≤ Rows.uptoBulkAll l := by
  induction l with
  | nil => cases h
  | cons x r ih =>
    simp only [Rows.uptoBulkAll]
    rcases List.mem_cons.1 h with e | e
    · subst e; omega
    · have := ih e; omega
theorem bulk_pos {H : Type} (d : DataW H) : 1 ≤ Rows.uptoBulk d := by
  cases d with
  | lit l => cases l <;> simp [Rows.uptoBulk]
  | _ => simp [Rows.uptoBulk]
theorem bulk_len {H : Type} (l : List (DataW H)) : l.length ≤ Rows.uptoBulkAll l := by
  induction l with
  | nil => simp [Rows.uptoBulkAll]
  | cons x r ih => have := bulk_pos x; simp only [Rows.uptoBulkAll, List.length_cons]; omega
theorem exists_list {α : Type} {P : Nat → α → Prop} : ∀ n : Nat, (∀ i, i < n → ∃ r, P i r) → ∃ l : List α, l.length = n ∧ ∀ (i : Nat) (h : i < l.length), P i l[i]
  | 0, _ => ⟨[], rfl, fun i h => by cases h⟩
  | n + 1, h => by
    obtain ⟨l, hl, hp⟩ := exists_list n fun i hi => h i (by omega)
    obtain ⟨r, hr⟩ := h n (by omega)
    refine ⟨l ++ [r], by simp [hl], fun i hi => ?_⟩
    by_cases hin : i < l.length
    · rw [List.getElem_append_left hin]; exact hp i hin
    · have : i = n := by simp at hi; omega
      subst this
      rw [List.getElem_append_right (by omega)]
      simp only [hl, Nat.sub_self, List.getElem_cons_zero]
      exact hr
theorem vl3 {μ : Mu} {N : Nat} {a b c d : Value} (hab : VC μ N c d) (ha : isScal a = true) (hb : isScal b = true) : VL μ N [a, b, c] [a, b, d] := VL.cons (VC.of_scal ha) (VL.cons (VC.of_scal hb) (VL.cons hab (VL.nil _ _)))

section
variable {HT : Type} {enc : TypeId × Value → HT} {W : World}
theorem raw_build : ∀ (m fuel : Nat), fuel < m → ∀ (cs : List Value) (x : DataW HT × List MemPlace), DataW.trod enc Try.prog W 0 (fun _ => true) true fuel 24 cs = some x → Rows.uptoBulk x.1 ≤ 1048576 → Elt W (fun H l => ∃ r, IsRaw H r l) 3 cs
  | 0, _, h, _, _, _, _ => absurd h (Nat.not_lt_zero _)
  | m + 1, fuel, hf, cs, x, h, hbulk => by
    have c3 : Try.prog.cellsOf 3 = 1 := by kernel_rfl
    have c22 : Try.prog.cellsOf 22 = 1 := by kernel_rfl
    have c24 : Try.prog.cellsOf 24 = 3 := by kernel_rfl
    obtain ⟨xs, n, rfl, rfl, hlen, hxl, hx⟩ := DataW.trod_struct Try.underlying24 h
    rw [c24] at hlen
    match cs, hlen with
    | [u0, u1, u2], _ =>
      have x0 : DataW.trod enc Try.prog W 0 (fun _ => true) true n 3 (([u0, u1, u2].drop 0).take (Try.prog.cellsOf 3)) = xs[0]? := hx 0 _ rfl
      have x1 : DataW.trod enc Try.prog W 0 (fun _ => true) true n 3 (([u0, u1, u2].drop 1).take (Try.prog.cellsOf 3)) = xs[1]? := hx 1 _ rfl
      have x2 : DataW.trod enc Try.prog W 0 (fun _ => true) true n 22 (([u0, u1, u2].drop 2).take (Try.prog.cellsOf 22)) = xs[2]? := hx 2 _ rfl
      have hxl3 : xs.length = 3 := hxl
      simp only [c3, c22] at x0 x1 x2
      match xs, hxl3 with
      | [y0, y1, y2], _ =>
        simp only [List.getElem?_cons_zero, List.getElem?_cons_succ] at x0 x1 x2
        obtain ⟨k, e0, _, _⟩ := DataW.trod_int Try.underlying3 x0
        obtain ⟨nn, e1, _, _⟩ := DataW.trod_int Try.underlying3 x1
        simp at e0 e1
        subst e0; subst e1
        have hb2 : Rows.uptoBulk y2.1 ≤ 1048576 := by
          have := bulk_le (d := y2.1) (l := [y0.1, y1.1, y2.1]) (by simp)
          simp only [List.map_cons, List.map_nil, Rows.uptoBulk] at hbulk
          omega
        rcases DataW.trod_slice Try.underlying22 x2 with ⟨e2, _⟩ | ⟨a, len, cap, elems, rest, n', rfl, e2, ey, _, hlc, _, hel, hget, hsp, _⟩
        · simp at e2
          subst e2
          exact fun H μ hr => ⟨H, μ, [.int .i64 k, .int .i64 nn, .slice none 0 0], Stp.refl hr, rfl, vl3 ⟨rfl, none, rfl⟩ rfl rfl, _, IsRaw.nil k nn 0⟩
        · simp at e2
          subst e2
          by_cases hcap : cap = 0
          · subst hcap
            have : len = 0 := by omega
            subst this
            exact fun H μ hr => ⟨H, μ, [.int .i64 k, .int .i64 nn, .slice none 0 0], Stp.refl hr, rfl, vl3 ⟨rfl, some a, rfl⟩ rfl rfl, _, IsRaw.nil k nn 0⟩
          · obtain ⟨hrl, hrest⟩ := hsp rfl
            rw [c24] at hget hrest
            have hbe : Rows.uptoBulkAll (elems.map (·.1)) ≤ 1048576 := by
              rw [ey] at hb2
              simp only [Rows.uptoBulk] at hb2
              omega
            have hlen' : len ≤ 1048576 := by
              have := bulk_len (elems.map (·.1))
              rw [List.length_map] at this
              omega
            have hel' : ∀ i, i < len → ∃ row : List Value, W.cells? 0 (a.add (i * 3)) 3 = some row ∧ Elt W (fun H l => ∃ r, IsRaw H r l) 3 row := by
              intro i hi
              have hg := hget i hi
              rw [List.getElem?_eq_getElem (by omega)] at hg
              obtain ⟨row, h1, h2⟩ := Option.bind_eq_some_iff.1 hg
              refine ⟨row, h1, raw_build m n' (by omega) row _ h2 ?_⟩
              have := bulk_le (d := (elems[i]'(by omega)).1) (l := elems.map (·.1)) (List.mem_map.mpr ⟨_, List.getElem_mem _, rfl⟩)
              omega
            have hsp' : ∀ j, j < cap → ∃ row : List Value, W.cells? 0 (a.add (j * 3)) 3 = some row := by
              intro j hj
              by_cases hjl : j < len
              · obtain ⟨row, h1, _⟩ := hel' j hjl; exact ⟨row, h1⟩
              · have hg := hrest (j - len) (by omega)
                rw [List.getElem?_eq_getElem (by omega), show len + (j - len) = j by omega] at hg
                obtain ⟨row, h1, _⟩ := Option.bind_eq_some_iff.1 hg
                exact ⟨row, h1⟩
            intro H μ hr
            obtain ⟨H', μ', b, off, cells, st, hv, ho, hle, hp⟩ := slice_build (Pred := fun H l => ∃ r, IsRaw H r l) (fun H H1 l ⟨r, h⟩ hg => ⟨r, h.gr hg⟩) (by decide) hlc (by omega) hel' hsp' H μ hr
            obtain ⟨kids, hkl, hk⟩ := exists_list len hp
            subst hkl
            exact ⟨H', μ', [.int .i64 k, .int .i64 nn, .slice (some ⟨b, off, none⟩) kids.length cap], st, rfl, vl3 hv rfl rfl, _, IsRaw.cons k nn kids b off cap false cells ho hle hlen' hk⟩

theorem bytes_build (fuel : Nat) (cs : List Value) (x : DataW HT × List MemPlace) (h : DataW.trod enc Try.prog W 0 (fun _ => true) true fuel 40 cs = some x) (hbulk : Rows.uptoBulk x.1 ≤ 1048576) : Elt W (fun H l => ∃ u, l = [u] ∧ IsBytes H u) 1 cs := by
  have c5 : Try.prog.cellsOf 5 = 1 := by kernel_rfl
  rcases DataW.trod_slice Try.underlying40 h with ⟨e2, _⟩ | ⟨a, len, cap, elems, rest, n', rfl, e2, ey, _, hlc, _, hel, hget, hsp, _⟩
  · subst e2
    exact fun H μ hr => ⟨H, μ, [.slice none 0 0], Stp.refl hr, rfl, VL.cons ⟨rfl, none, rfl⟩ (VL.nil _ _), _, rfl, .inl ⟨0, rfl⟩⟩
  · subst e2
    by_cases hcap : cap = 0
    · subst hcap
      have : len = 0 := by omega
      subst this
      exact fun H μ hr => ⟨H, μ, [.slice none 0 0], Stp.refl hr, rfl, VL.cons ⟨rfl, some a, rfl⟩ (VL.nil _ _), _, rfl, .inl ⟨0, rfl⟩⟩
    · obtain ⟨hrl, hrest⟩ := hsp rfl
      rw [c5] at hget hrest
      have hlen' : len ≤ 1048576 := by
        rw [ey] at hbulk
        simp only [Rows.uptoBulk] at hbulk
        have := bulk_len (elems.map (·.1))
        rw [List.length_map] at this
        omega
      have hel' : ∀ i, i < len → ∃ row : List Value, W.cells? 0 (a.add (i * 1)) 1 = some row ∧ Elt W (fun H l => ∃ y : Nat, y < 256 ∧ l = [.int .u8 (y : Int)]) 1 row := by
        intro i hi
        have hg := hget i hi
        rw [List.getElem?_eq_getElem (by omega)] at hg
        obtain ⟨row, h1, h2⟩ := Option.bind_eq_some_iff.1 hg
        obtain ⟨z, e, _, hw⟩ := DataW.trod_int Try.underlying5 h2
        subst e
        have hz : 0 ≤ z ∧ z ≤ 255 := by simpa [Lit.wf, IntKind.min, IntKind.max, IntKind.signed, IntKind.bits] using hw
        refine ⟨_, h1, fun H μ hr => ⟨H, μ, [.int .u8 z], Stp.refl hr, rfl, VL.cons rfl (VL.nil _ _), z.toNat, by omega, by rw [Int.toNat_of_nonneg hz.1]⟩⟩
      have hsp' : ∀ j, j < cap → ∃ row : List Value, W.cells? 0 (a.add (j * 1)) 1 = some row := by
        intro j hj
        by_cases hjl : j < len
        · obtain ⟨row, h1, _⟩ := hel' j hjl; exact ⟨row, h1⟩
        · have hg := hrest (j - len) (by omega)
          rw [List.getElem?_eq_getElem (by omega), show len + (j - len) = j by omega] at hg
          obtain ⟨row, h1, _⟩ := Option.bind_eq_some_iff.1 hg
          exact ⟨row, h1⟩
      intro H μ hr
      obtain ⟨H', μ', b, off, cells, st, hv, ho, hle, hp⟩ := slice_build (Pred := fun H l => ∃ y : Nat, y < 256 ∧ l = [.int .u8 (y : Int)]) (fun H H1 l h _ => h) (by decide) hlc (by omega) hel' hsp' H μ hr
      refine ⟨H', μ', [.slice (some ⟨b, off, none⟩) len cap], st, rfl, VL.cons hv (VL.nil _ _), _, rfl, .inr ⟨b, off, cap, len, false, cells, rfl, ho, by omega, hlen', fun i hi => ?_⟩⟩
      obtain ⟨y, hy, hyc⟩ := hp i hi
      refine ⟨y, hy, ?_⟩
      have := congrArg (fun l => l[0]?) hyc
      simpa using this
theorem texts_build (fuel : Nat) (cs : List Value) (x : DataW HT × List MemPlace) (h : DataW.trod enc Try.prog W 0 (fun _ => true) true fuel 25 cs = some x) (hbulk : Rows.uptoBulk x.1 ≤ 1048576) : Elt W (fun H l => ∃ u, l = [u] ∧ IsTexts H u) 1 cs := by
  have c40 : Try.prog.cellsOf 40 = 1 := by kernel_rfl
  rcases DataW.trod_slice Try.underlying25 h with ⟨e2, _⟩ | ⟨a, len, cap, elems, rest, n', rfl, e2, ey, _, hlc, _, hel, hget, hsp, _⟩
  · subst e2
    exact fun H μ hr => ⟨H, μ, [.slice none 0 0], Stp.refl hr, rfl, VL.cons ⟨rfl, none, rfl⟩ (VL.nil _ _), _, rfl, .inl ⟨0, rfl⟩⟩
  · subst e2
    by_cases hcap : cap = 0
    · subst hcap
      have : len = 0 := by omega
      subst this
      exact fun H μ hr => ⟨H, μ, [.slice none 0 0], Stp.refl hr, rfl, VL.cons ⟨rfl, some a, rfl⟩ (VL.nil _ _), _, rfl, .inl ⟨0, rfl⟩⟩
    · obtain ⟨hrl, hrest⟩ := hsp rfl
      rw [c40] at hget hrest
      have hbe : Rows.uptoBulkAll (elems.map (·.1)) ≤ 1048576 := by
        rw [ey] at hbulk
        simp only [Rows.uptoBulk] at hbulk
        omega
      have hlen' : len ≤ 1048576 := by
        have := bulk_len (elems.map (·.1))
        rw [List.length_map] at this
        omega
      have hel' : ∀ i, i < len → ∃ row : List Value, W.cells? 0 (a.add (i * 1)) 1 = some row ∧ Elt W (fun H l => ∃ u, l = [u] ∧ IsBytes H u) 1 row := by
        intro i hi
        have hg := hget i hi
        rw [List.getElem?_eq_getElem (by omega)] at hg
        obtain ⟨row, h1, h2⟩ := Option.bind_eq_some_iff.1 hg
        refine ⟨row, h1, bytes_build n' row _ h2 ?_⟩
        have := bulk_le (d := (elems[i]'(by omega)).1) (l := elems.map (·.1)) (List.mem_map.mpr ⟨_, List.getElem_mem _, rfl⟩)
        omega
      have hsp' : ∀ j, j < cap → ∃ row : List Value, W.cells? 0 (a.add (j * 1)) 1 = some row := by
        intro j hj
        by_cases hjl : j < len
        · obtain ⟨row, h1, _⟩ := hel' j hjl; exact ⟨row, h1⟩
        · have hg := hrest (j - len) (by omega)
          rw [List.getElem?_eq_getElem (by omega), show len + (j - len) = j by omega] at hg
          obtain ⟨row, h1, _⟩ := Option.bind_eq_some_iff.1 hg
          exact ⟨row, h1⟩
      intro H μ hr
      obtain ⟨H', μ', b, off, cells, st, hv, ho, hle, hp⟩ := slice_build (Pred := fun H l => ∃ u, l = [u] ∧ IsBytes H u) (fun H H1 l ⟨u, h1, h2⟩ hg => ⟨u, h1, h2.gr hg⟩) (by decide) hlc (by omega) hel' hsp' H μ hr
      refine ⟨H', μ', [.slice (some ⟨b, off, none⟩) len cap], st, rfl, VL.cons hv (VL.nil _ _), _, rfl, .inr ⟨b, off, cap, len, false, cells, rfl, ho, by omega, hlen', fun i hi => ?_⟩⟩
      obtain ⟨u, hu, hub⟩ := hp i hi
      refine ⟨u, ?_, hub⟩
      have := congrArg (fun l => l[0]?) hu
      simpa using this
end
end Go.Proofs.Ytmgofjgfmcmceaa
end
section
namespace Go.Proofs.Ytmgofjgfmcmceaa
open Go.ChangeShapes Go.WideShapes Go.ChangeAt Go.RowKit
set_option maxRecDepth 4000

theorem own : ownKnob Try.prog.godebug = none := by kernel_rfl
theorem laidOut : laidOutB Try.prog = true := by kernel_rfl
theorem mixed : X.P.follows .mixedOrders = true := by kernel_rfl

/-- The walk, on the machine. -/
theorem machine (W : World) (μ : Mu) (H : Hp) (hro : RO W μ H) (vs : List Value) (args : Array Value) (ha : ArgsR μ H.length vs args) (hc : CallEx X 0 3 vs H fun v H1 => v = .bool true ∧ Gr H H1) :
    Calls Try.prog 3 args W fun e W' => e = .returned (.bool true) ∧ Below W.heap.size W W' := by
  obtain ⟨n, v, H1, h1, rfl, _⟩ := hc
  have hmem : Mem X (wrS μ H) (liveS μ H) W μ H W := by
    refine ⟨rfl, rfl, rfl, Nat.le_refl _, fun _ _ _ => rfl, ?_, fun b o hb => .inl ⟨b, o, hb, rfl⟩, hro.1, ?_, ?_⟩
    · intro b o hb hw
      rw [hro.2 b o hb] at hw; cases hw
    · intro b c o o' hb _ hw
      rw [hro.2 b o hb] at hw; cases hw
    · intro g b h; cases h
  have hnw : ∀ k, ¬ wrS μ H k := by rintro k ⟨b, o, hb, hw, _⟩; rw [hro.2 b o hb] at hw; cases hw
  rcases execCall_sound (drawSound mixed) n 0 3 vs H _ H1 h1 μ W args ha hmem with ⟨r', w1, h, _⟩ | ⟨_, h⟩
  · exfalso
    have hent : (callFunc 3 args).run X.P W = .ok (.enter 3 args) W := by
      simp only [callFunc, Sem.run_bind, run_program, Result.andThen_ok, fun3]
      simp [name3, body3]
    rw [hent] at h
    simp at h
  · refine h.mono fun e W' ⟨r', he, μ1, _, _, hr, hm⟩ => ?_
    have : r' = .bool true := hr
    subst this
    exact ⟨he, hm.os, hm.tape, hm.output, hm.size, fun k hk => hm.kept k hk (hnw k)⟩

theorem contract (HT : Type) (enc : TypeId × Value → HT) (W : World) (base : Nat) (args : Array Value) (ds gs : List (DataW HT)) (before : List MemPlace)
    (hval : ∀ (j : Nat) t v, Try.f3.params[j]? = some t → args[j]? = some v → Value.okWide Try.prog W .any base t v)
    (hW : DataW.Whole enc Try.prog Try.f3.params.toList Rows.erePrintsSpec.vars false W args.toList ds gs before) (hk : Rows.uptoSmall HT (ds ++ gs) = true) :
    Calls Try.prog 3 args W fun e W' => ∃ v, e = .returned v ∧ Rows.erePrintsSpec.post enc Try.prog Try.f3 false true false false W args v W' := by
  have hW' := hW
  obtain ⟨p, q, hA0, hV, rfl, hfz, hnd⟩ := hW
  have hA : DataW.TrodAll enc Try.prog W 0 (fun _ => true) true Try.f3.params.toList args.toList ds p := hA0
  rw [Try.params3] at hA hval
  obtain ⟨v0, vs0, d0, ds0, p0, q0, hargs, rfl, rfl, h0, r0⟩ := trodAll_cons hA
  obtain ⟨v1, vs1, d1, ds1, p1, q1, rfl, rfl, rfl, h1, r1⟩ := trodAll_cons r0
  obtain ⟨v2, vs2, d2, ds2, p2, q2, rfl, rfl, rfl, h2, r2⟩ := trodAll_cons r1
  obtain ⟨rfl, rfl, rfl⟩ := trodAll_nil r2
  obtain rfl : args = #[v0, v1, v2] := by cases args; simp_all
  obtain ⟨rfl, rfl⟩ := trodVars_none hV
  simp only [List.append_nil] at hk
  have hbulk : Rows.uptoBulkAll [d0, d1, d2] ≤ 1048576 := of_decide_eq_true hk
  have hb0 : Rows.uptoBulk d0 ≤ 1048576 := Nat.le_trans (bulk_le (by simp)) hbulk
  have hb2 : Rows.uptoBulk d2 ≤ 1048576 := Nat.le_trans (bulk_le (by simp)) hbulk
  obtain ⟨c0, rfl, _⟩ := okWide_struct Try.underlying24 (hval 0 24 v0 rfl rfl)
  obtain ⟨b1, rfl, rfl, rfl⟩ := open_bool Try.underlying4 (hval 1 4 v1 rfl rfl) h1
  obtain ⟨a2, len2, cap2, rfl⟩ := okWide_slice Try.underlying25 (hval 2 25 v2 rfl rfl)
  have k0 := h0
  have k2 := h2
  have lt0 : ∀ x ∈ p0, x.block < W.heap.size := by obtain ⟨m, hm⟩ := k0; exact DataW.trod_lt m _ _ _ hm
  have lt2 : ∀ x ∈ p2, x.block < W.heap.size := by obtain ⟨m, hm⟩ := k2; exact DataW.trod_lt m _ _ _ hm
  obtain ⟨f0, hf0⟩ := h0
  obtain ⟨f2, hf2⟩ := h2
  have hro0 : RO W (fun _ => default) [] := ⟨fun b o hb => by simp [getO] at hb, fun b o hb => by simp [getO] at hb⟩
  obtain ⟨H1, μ1, row0, st1, _, hv0, r, hraw⟩ := raw_build (f0 + 1) f0 (Nat.lt_succ_self _) _ _ hf0 hb0 [] _ hro0
  obtain ⟨H2, μ2, row2, st2, _, hv2, u, rfl, htx⟩ := texts_build f2 _ _ hf2 hb2 H1 μ1 st1.2.2
  have hargsR : ArgsR μ2 H2.length [.agg row0.toArray, .bool b1, u] #[.agg c0, .bool b1, .slice a2 len2 cap2] := by
    refine ⟨rfl, fun i x hx => ?_⟩
    match i with
    | 0 =>
      simp at hx
      subst hx
      refine ⟨.agg c0, rfl, VT.of_any ⟨c0, rfl, ?_⟩⟩
      exact hv0.mono st2.2.1 st2.1.1
    | 1 =>
      simp at hx
      subst hx
      exact ⟨.bool b1, rfl, VT.of_cell rfl⟩
    | 2 =>
      simp at hx
      subst hx
      refine ⟨.slice a2 len2 cap2, rfl, ?_⟩
      have := hv2.2 0 u rfl
      obtain ⟨x', e1, e2⟩ := this
      simp [Value.cells] at e1
      subst e1
      exact VT.of_cell e2
    | i + 3 => simp at hx
  refine (machine W μ2 H2 st2.2.2 _ _ hargsR (law_ok 0 H2 r row0 b1 u (Nat.zero_le _) (hraw.gr st2.1) htx)).mono fun e W' ⟨he, bel⟩ => ?_
  subst he
  exact ⟨_, rfl, _, _, _, [], _, [], hW', trodAll_mk1 (shut_bool Try.underlying4 _), (trodAll_cons_mk (Below.trod laidOut (by kernel_rfl) (of_decide_eq_true (by kernel_rfl)) k0 bel lt0) (trodAll_cons_mk (shut_bool Try.underlying4 _) (trodAll_cons_mk (Below.trod laidOut (by kernel_rfl) (of_decide_eq_true (by kernel_rfl)) k2 bel lt2) trodAll_mk0))), rfl, bel.frame _, fun h => by cases h⟩

set_option maxRecDepth 100000 in
theorem lifted (os : Os) (started : os.Started) (HT : Type) (enc : TypeId × Value → HT) (F : Stop.Interp) :
    ReturnsInHanded {} Try.checked os 3 .any ((Rows.OpenSpec.upto Rows.erePrintsSpec).pre6 enc Try.prog Try.f3 Rows.erePrintsUptoRow.domain false) (((Rows.OpenSpec.upto Rows.erePrintsSpec).at F).post enc Try.prog Try.f3 false true false false) := by
  refine returnsInHanded_of_cond (C := Try.checked) (s := Rows.OpenSpec.upto Rows.erePrintsSpec) (k := Rows.uptoSmall) rfl own started (by kernel_rfl) Try.func3
    (OpenSpec.witness (enc := enc) (C := Try.checked) (s := Rows.OpenSpec.upto Rows.erePrintsSpec) (k := Rows.uptoSmall) rfl false ⟨#[], #[.agg #[.int .i64 0, .int .i64 0, .slice none 0 0], .bool false, .slice none 0 0], []⟩ 8 (by kernel_rfl) (by kernel_rfl) (by kernel_rfl)
      (x := ([.agg [.lit (.int .i64 0), .lit (.int .i64 0), .nil], .lit (.bool false), .nil], [], [])) (by kernel_rfl) rfl (by kernel_rfl)) ?_
  intro W base args ds gs before hval hW _ hk _
  exact contract HT enc W base args ds gs before hval hW hk

theorem proved : Rows.ErePrintsUptoSaid :=
  OpenClaim.holds_of_cond 3 Try.f3 rfl rfl rfl rfl rfl rfl rfl ⟨rfl, rfl, rfl, rfl, rfl⟩ rfl rfl rfl rfl rfl (by kernel_rfl) Try.func3 (by kernel_rfl)
    (of_decide_eq_true (by kernel_rfl)) (by unfold Func.isWrapper; first | (rw [if_pos (by decide +kernel)]; kernel_rfl) | (rw [if_neg (by decide +kernel)]; exact ⟨rfl, rfl⟩))
    (fun os started H enc _ F => lifted os started H enc F)
#print axioms proved
end Go.Proofs.Ytmgofjgfmcmceaa
end
