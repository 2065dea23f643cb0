/- Right of the reference; and of the program. How many bits a word has: what the program works out. A byte's octal text. How many bits a word has: none, all, or some. Texts of sets and trees, as the program prints them. -/
import Derived.Test.YtmgofjgfmcmceaaF8
section
namespace Go.Proofs.Ytmgofjgfmcmceaa
open Go.RowKit
set_option maxRecDepth 4000
set_option maxHeartbeats 2000000

theorem shR : ∀ (d : Nat) (T : Tr), T.ht ≤ d → ∀ (lim : Nat) (H : Hp) (S : Nat → Prop) (p : Option Addr) (n : Nat), IsRe H S T (reC T.k T.s p n) →
    CallEx X lim 19 [reV T.k T.s p n] H fun v H1 => v = .bool T.shp ∧ H1 = H := by
  intro d
  induction d with
  | zero =>
    intro T h
    cases T with
    | node k s l => simp [Tr.ht] at h
  | succ d ih =>
    intro T hT lim H S p n hI
    have hn := hI.len_eq
    cases T with
    | node k s l =>
      simp only [Tr.k, Tr.s, Tr.kids] at hI hn ⊢
      subst hn
      unfold reV
      by_cases hm : kidsN k = (l.length : Int)
      · have e1 : decide ((l.length : Int) = kidsN k) = true := by simp [hm]
        by_cases hb : k = 1 ∨ s = S4.z
        · match l, hT, hI, hm, e1 with
          | [], hT, hI, hm, e1 =>
            obtain ⟨_, rfl⟩ := hI.inv0
            have hv : (Tr.node k s []).shp = true := by simp [Tr.shp, shpL, hm, hb]
            rw [hv]
            simp only [List.length_nil] at e1 ⊢
            have e1 : decide (0 = kidsN k) = true := e1
            by_cases hk : k = 1
            · have ek : decide (k = 1) = true := by simp [hk]
              (refine call_intro fun19 name19 body19 ?_; simp only [Try.ntmps19, List.map_cons, List.map_nil, List.length_cons, List.length_nil, Nat.zero_add, Nat.reduceSub, List.replicate_succ, List.replicate_zero, List.cons_append, List.nil_append])
              refine rS c19_l c19_r rfl ?_
              refine run_region rfl ?_
              simp only [sX, simprocAttr, -List.reduceReplicate]
              refine rS c19_rl c19_rr rfl ?_
              refine rS c19_rll c19_rlr rfl ?_
              refine run_drawG rfl c19_rll_ok c19_rll_dr c19_rll_gs ?_
              simp only [sX, simprocAttr, -List.reduceReplicate]
              refine call_of (kidsR_ok _ _ _) ?_
              rintro v H2 ⟨rfl, h2⟩
              subst h2
              simp only [sX, simprocAttr, -List.reduceReplicate, e1, ek]
              refine rF c19_rlrt c19_rlre rfl rfl ?_
              refine run_skip rfl ?_
              simp only [sP]
              refine rS c19_rrl c19_rrr rfl ?_
              refine rS c19_rrll c19_rrlr rfl ?_
              refine run_region rfl ?_
              simp only [sX, simprocAttr, -List.reduceReplicate]
              refine run_block (b := c19_rrlrb) rfl ?_
              (refine run_loopk (b := c19_rrlrbo) rfl keep19_4 ?_; simp only [sC, Nat.reduceBEq, Nat.reduceAdd])
              refine rS c19_rrlrbol c19_rrlrbor rfl ?_
              refine rS c19_rrlrboll c19_rrlrbolr rfl ?_
              refine run_region rfl ?_
              simp only [sX, simprocAttr, -List.reduceReplicate]
              refine rF c19_rrlrbolrt c19_rrlrbolre rfl rfl ?_
              refine run_exit rfl ?_
              simp only [sP, if_true]
              refine rS c19_rrrl c19_rrrr rfl ?_
              refine run_region rfl ?_
              simp only [sX, simprocAttr, -List.reduceReplicate]
              refine run_ret rfl ?_
              (simp only [sP]; refine ⟨_, (by rw [resultsA_eq Try.results19]; simp only [sR, List.mapM_cons, List.mapM_nil]; rfl), ?_⟩)
              exact ⟨rfl, trivial⟩
            · have ek : decide (k = 1) = false := by simp [hk]
              have es : decide (s = S4.z) = true := by rcases hb with h | h; exact absurd h hk; simp [h]
              (refine call_intro fun19 name19 body19 ?_; simp only [Try.ntmps19, List.map_cons, List.map_nil, List.length_cons, List.length_nil, Nat.zero_add, Nat.reduceSub, List.replicate_succ, List.replicate_zero, List.cons_append, List.nil_append])
              refine rS c19_l c19_r rfl ?_
              refine run_region rfl ?_
              simp only [sX, simprocAttr, -List.reduceReplicate]
              refine rS c19_rl c19_rr rfl ?_
              refine rS c19_rll c19_rlr rfl ?_
              refine run_drawG rfl c19_rll_ok c19_rll_dr c19_rll_gs ?_
              simp only [sX, simprocAttr, -List.reduceReplicate]
              refine call_of (kidsR_ok _ _ _) ?_
              rintro v H2 ⟨rfl, h2⟩
              subst h2
              simp only [sX, simprocAttr, -List.reduceReplicate, e1, ek, es, set_neq']
              refine rF c19_rlrt c19_rlre rfl rfl ?_
              refine run_skip rfl ?_
              simp only [sP]
              refine rS c19_rrl c19_rrr rfl ?_
              refine rS c19_rrll c19_rrlr rfl ?_
              refine run_region rfl ?_
              simp only [sX, simprocAttr, -List.reduceReplicate]
              refine run_block (b := c19_rrlrb) rfl ?_
              (refine run_loopk (b := c19_rrlrbo) rfl keep19_4 ?_; simp only [sC, Nat.reduceBEq, Nat.reduceAdd])
              refine rS c19_rrlrbol c19_rrlrbor rfl ?_
              refine rS c19_rrlrboll c19_rrlrbolr rfl ?_
              refine run_region rfl ?_
              simp only [sX, simprocAttr, -List.reduceReplicate]
              refine rF c19_rrlrbolrt c19_rrlrbolre rfl rfl ?_
              refine run_exit rfl ?_
              simp only [sP, if_true]
              refine rS c19_rrrl c19_rrrr rfl ?_
              refine run_region rfl ?_
              simp only [sX, simprocAttr, -List.reduceReplicate]
              refine run_ret rfl ?_
              (simp only [sP]; refine ⟨_, (by rw [resultsA_eq Try.results19]; simp only [sR, List.mapM_cons, List.mapM_nil]; rfl), ?_⟩)
              exact ⟨rfl, trivial⟩
          | [a], hT, hI, hm, e1 =>
            obtain ⟨_, bl, wr, p1, rfl, _, ho, ha⟩ := hI.inv1
            have hk : k ≠ 1 := by rintro rfl; simp [kidsN] at hm
            have hs : s = S4.z := by rcases hb with h | h; exact absurd h hk; exact h
            have ek : decide (k = 1) = false := by simp [hk]
            have es : decide (s = S4.z) = true := by simp [hs]
            have hta : a.ht ≤ d := by simp only [Tr.ht, htL] at hT; omega
            have hca := ih a hta lim H S p1 a.kids.length ha
            simp only [List.length_cons, List.length_nil, Nat.zero_add] at e1 ⊢
            have e1 : decide (1 = kidsN k) = true := e1
            unfold reC at ho
            cases hsa : a.shp with
            | true =>
              have hv : (Tr.node k s [a]).shp = true := by simp [Tr.shp, shpL, hm, hb, hsa]
              rw [hv]
              (refine call_intro fun19 name19 body19 ?_; simp only [Try.ntmps19, List.map_cons, List.map_nil, List.length_cons, List.length_nil, Nat.zero_add, Nat.reduceSub, List.replicate_succ, List.replicate_zero, List.cons_append, List.nil_append])
              refine rS c19_l c19_r rfl ?_
              refine run_region rfl ?_
              simp only [sX, simprocAttr, -List.reduceReplicate]
              refine rS c19_rl c19_rr rfl ?_
              refine rS c19_rll c19_rlr rfl ?_
              refine run_drawG rfl c19_rll_ok c19_rll_dr c19_rll_gs ?_
              simp only [sX, simprocAttr, -List.reduceReplicate]
              refine call_of (kidsR_ok _ _ _) ?_
              rintro v H2 ⟨rfl, h2⟩
              subst h2
              simp only [sX, simprocAttr, -List.reduceReplicate, e1, ek, es, set_neq']
              refine rF c19_rlrt c19_rlre rfl rfl ?_
              refine run_skip rfl ?_
              simp only [sP]
              refine rS c19_rrl c19_rrr rfl ?_
              refine rS c19_rrll c19_rrlr rfl ?_
              refine run_region rfl ?_
              simp only [sX, simprocAttr, -List.reduceReplicate]
              refine run_block (b := c19_rrlrb) rfl ?_
              (refine run_loopk (b := c19_rrlrbo) rfl keep19_4 ?_; simp only [sC, Nat.reduceBEq, Nat.reduceAdd])
              refine rS c19_rrlrbol c19_rrlrbor rfl ?_
              refine rS c19_rrlrboll c19_rrlrbolr rfl ?_
              refine run_region rfl ?_
              simp only [sX, simprocAttr, -List.reduceReplicate]
              refine rT c19_rrlrbolrt c19_rrlrbolre rfl rfl ?_
              refine run_skip rfl ?_
              simp only [sP]
              refine rS c19_rrlrborl c19_rrlrborr rfl ?_
              refine run_block (b := c19_rrlrborlb) rfl ?_
              refine rS c19_rrlrborlbl c19_rrlrborlbr rfl ?_
              refine run_region rfl ?_
              simp only [sX, simprocAttr, -List.reduceReplicate, ho]
              refine call_of hca ?_
              rintro v H2 ⟨rfl, h2⟩
              subst h2
              rw [hsa]
              simp only [sX, simprocAttr, -List.reduceReplicate]
              refine rF c19_rrlrborlbrt c19_rrlrborlbre rfl rfl ?_
              refine run_skip rfl ?_
              simp only [sP]
              refine run_region rfl ?_
              simp only [sX, simprocAttr, -List.reduceReplicate]
              (refine run_loopk (b := c19_rrlrbo) rfl keep19_4 ?_; simp only [sC, Nat.reduceBEq, Nat.reduceAdd])
              refine rS c19_rrlrbol c19_rrlrbor rfl ?_
              refine rS c19_rrlrboll c19_rrlrbolr rfl ?_
              refine run_region rfl ?_
              simp only [sX, simprocAttr, -List.reduceReplicate]
              refine rF c19_rrlrbolrt c19_rrlrbolre rfl rfl ?_
              refine run_exit rfl ?_
              simp only [sP, if_true]
              refine rS c19_rrrl c19_rrrr rfl ?_
              refine run_region rfl ?_
              simp only [sX, simprocAttr, -List.reduceReplicate]
              refine run_ret rfl ?_
              (simp only [sP]; refine ⟨_, (by rw [resultsA_eq Try.results19]; simp only [sR, List.mapM_cons, List.mapM_nil]; rfl), ?_⟩)
              exact ⟨rfl, trivial⟩
            | false =>
              have hv : (Tr.node k s [a]).shp = false := by simp [Tr.shp, shpL, hsa]
              rw [hv]
              (refine call_intro fun19 name19 body19 ?_; simp only [Try.ntmps19, List.map_cons, List.map_nil, List.length_cons, List.length_nil, Nat.zero_add, Nat.reduceSub, List.replicate_succ, List.replicate_zero, List.cons_append, List.nil_append])
              refine rS c19_l c19_r rfl ?_
              refine run_region rfl ?_
              simp only [sX, simprocAttr, -List.reduceReplicate]
              refine rS c19_rl c19_rr rfl ?_
              refine rS c19_rll c19_rlr rfl ?_
              refine run_drawG rfl c19_rll_ok c19_rll_dr c19_rll_gs ?_
              simp only [sX, simprocAttr, -List.reduceReplicate]
              refine call_of (kidsR_ok _ _ _) ?_
              rintro v H2 ⟨rfl, h2⟩
              subst h2
              simp only [sX, simprocAttr, -List.reduceReplicate, e1, ek, es, set_neq']
              refine rF c19_rlrt c19_rlre rfl rfl ?_
              refine run_skip rfl ?_
              simp only [sP]
              refine rS c19_rrl c19_rrr rfl ?_
              refine rS c19_rrll c19_rrlr rfl ?_
              refine run_region rfl ?_
              simp only [sX, simprocAttr, -List.reduceReplicate]
              refine run_block (b := c19_rrlrb) rfl ?_
              (refine run_loopk (b := c19_rrlrbo) rfl keep19_4 ?_; simp only [sC, Nat.reduceBEq, Nat.reduceAdd])
              refine rS c19_rrlrbol c19_rrlrbor rfl ?_
              refine rS c19_rrlrboll c19_rrlrbolr rfl ?_
              refine run_region rfl ?_
              simp only [sX, simprocAttr, -List.reduceReplicate]
              refine rT c19_rrlrbolrt c19_rrlrbolre rfl rfl ?_
              refine run_skip rfl ?_
              simp only [sP]
              refine rS c19_rrlrborl c19_rrlrborr rfl ?_
              refine run_block (b := c19_rrlrborlb) rfl ?_
              refine rS c19_rrlrborlbl c19_rrlrborlbr rfl ?_
              refine run_region rfl ?_
              simp only [sX, simprocAttr, -List.reduceReplicate, ho]
              refine call_of hca ?_
              rintro v H2 ⟨rfl, h2⟩
              subst h2
              rw [hsa]
              simp only [sX, simprocAttr, -List.reduceReplicate]
              refine rT c19_rrlrborlbrt c19_rrlrborlbre rfl rfl ?_
              refine rS c19_rrlrborlbrtl c19_rrlrborlbrtr rfl ?_
              refine run_region rfl ?_
              simp only [sX, simprocAttr, -List.reduceReplicate]
              refine run_ret rfl ?_
              (simp only [sP]; refine ⟨_, (by rw [resultsA_eq Try.results19]; simp only [sR, List.mapM_cons, List.mapM_nil]; rfl), ?_⟩)
              exact ⟨rfl, trivial⟩
          | [a, b], hT, hI, hm, e1 =>
            obtain ⟨_, bl, wr, p1, p2, rfl, _, ho, ha, hb'⟩ := hI.inv2
            have hk : k ≠ 1 := by rintro rfl; simp [kidsN] at hm
            have hs : s = S4.z := by rcases hb with h | h; exact absurd h hk; exact h
            have ek : decide (k = 1) = false := by simp [hk]
            have es : decide (s = S4.z) = true := by simp [hs]
            have hta : a.ht ≤ d := by simp only [Tr.ht, htL] at hT; omega
            have htb : b.ht ≤ d := by simp only [Tr.ht, htL] at hT; omega
            have hca := ih a hta lim H S p1 a.kids.length ha
            have hcb := ih b htb lim H S p2 b.kids.length hb'
            simp only [List.length_cons, List.length_nil, Nat.zero_add, Nat.reduceAdd] at e1 ⊢
            have e1 : decide (2 = kidsN k) = true := e1
            unfold reC at ho
            simp only [List.cons_append, List.nil_append] at ho
            cases hsa : a.shp with
            | true =>
              cases hsb : b.shp with
              | true =>
                have hv : (Tr.node k s [a, b]).shp = true := by simp [Tr.shp, shpL, hm, hb, hsa, hsb]
                rw [hv]
                (refine call_intro fun19 name19 body19 ?_; simp only [Try.ntmps19, List.map_cons, List.map_nil, List.length_cons, List.length_nil, Nat.zero_add, Nat.reduceSub, List.replicate_succ, List.replicate_zero, List.cons_append, List.nil_append])
                refine rS c19_l c19_r rfl ?_
                refine run_region rfl ?_
                simp only [sX, simprocAttr, -List.reduceReplicate]
                refine rS c19_rl c19_rr rfl ?_
                refine rS c19_rll c19_rlr rfl ?_
                refine run_drawG rfl c19_rll_ok c19_rll_dr c19_rll_gs ?_
                simp only [sX, simprocAttr, -List.reduceReplicate]
                refine call_of (kidsR_ok _ _ _) ?_
                rintro v H2 ⟨rfl, h2⟩
                subst h2
                simp only [sX, simprocAttr, -List.reduceReplicate, e1, ek, es, set_neq']
                refine rF c19_rlrt c19_rlre rfl rfl ?_
                refine run_skip rfl ?_
                simp only [sP]
                refine rS c19_rrl c19_rrr rfl ?_
                refine rS c19_rrll c19_rrlr rfl ?_
                refine run_region rfl ?_
                simp only [sX, simprocAttr, -List.reduceReplicate]
                refine run_block (b := c19_rrlrb) rfl ?_
                (refine run_loopk (b := c19_rrlrbo) rfl keep19_4 ?_; simp only [sC, Nat.reduceBEq, Nat.reduceAdd])
                refine rS c19_rrlrbol c19_rrlrbor rfl ?_
                refine rS c19_rrlrboll c19_rrlrbolr rfl ?_
                refine run_region rfl ?_
                simp only [sX, simprocAttr, -List.reduceReplicate]
                refine rT c19_rrlrbolrt c19_rrlrbolre rfl rfl ?_
                refine run_skip rfl ?_
                simp only [sP]
                refine rS c19_rrlrborl c19_rrlrborr rfl ?_
                refine run_block (b := c19_rrlrborlb) rfl ?_
                refine rS c19_rrlrborlbl c19_rrlrborlbr rfl ?_
                refine run_region rfl ?_
                simp only [sX, simprocAttr, -List.reduceReplicate, ho]
                refine call_of hca ?_
                rintro v H2 ⟨rfl, h2⟩
                subst h2
                rw [hsa]
                simp only [sX, simprocAttr, -List.reduceReplicate]
                refine rF c19_rrlrborlbrt c19_rrlrborlbre rfl rfl ?_
                refine run_skip rfl ?_
                simp only [sP]
                refine run_region rfl ?_
                simp only [sX, simprocAttr, -List.reduceReplicate]
                (refine run_loopk (b := c19_rrlrbo) rfl keep19_4 ?_; simp only [sC, Nat.reduceBEq, Nat.reduceAdd])
                refine rS c19_rrlrbol c19_rrlrbor rfl ?_
                refine rS c19_rrlrboll c19_rrlrbolr rfl ?_
                refine run_region rfl ?_
                simp only [sX, simprocAttr, -List.reduceReplicate]
                refine rT c19_rrlrbolrt c19_rrlrbolre rfl rfl ?_
                refine run_skip rfl ?_
                simp only [sP]
                refine rS c19_rrlrborl c19_rrlrborr rfl ?_
                refine run_block (b := c19_rrlrborlb) rfl ?_
                refine rS c19_rrlrborlbl c19_rrlrborlbr rfl ?_
                refine run_region rfl ?_
                simp only [sX, simprocAttr, -List.reduceReplicate, ho]
                refine call_of hcb ?_
                rintro v H2 ⟨rfl, h2⟩
                subst h2
                rw [hsb]
                simp only [sX, simprocAttr, -List.reduceReplicate]
                refine rF c19_rrlrborlbrt c19_rrlrborlbre rfl rfl ?_
                refine run_skip rfl ?_
                simp only [sP]
                refine run_region rfl ?_
                simp only [sX, simprocAttr, -List.reduceReplicate]
                (refine run_loopk (b := c19_rrlrbo) rfl keep19_4 ?_; simp only [sC, Nat.reduceBEq, Nat.reduceAdd])
                refine rS c19_rrlrbol c19_rrlrbor rfl ?_
                refine rS c19_rrlrboll c19_rrlrbolr rfl ?_
                refine run_region rfl ?_
                simp only [sX, simprocAttr, -List.reduceReplicate]
                refine rF c19_rrlrbolrt c19_rrlrbolre rfl rfl ?_
                refine run_exit rfl ?_
                simp only [sP, if_true]
                refine rS c19_rrrl c19_rrrr rfl ?_
                refine run_region rfl ?_
                simp only [sX, simprocAttr, -List.reduceReplicate]
                refine run_ret rfl ?_
                (simp only [sP]; refine ⟨_, (by rw [resultsA_eq Try.results19]; simp only [sR, List.mapM_cons, List.mapM_nil]; rfl), ?_⟩)
                exact ⟨rfl, trivial⟩
              | false =>
                have hv : (Tr.node k s [a, b]).shp = false := by simp [Tr.shp, shpL, hsb]
                rw [hv]
                (refine call_intro fun19 name19 body19 ?_; simp only [Try.ntmps19, List.map_cons, List.map_nil, List.length_cons, List.length_nil, Nat.zero_add, Nat.reduceSub, List.replicate_succ, List.replicate_zero, List.cons_append, List.nil_append])
                refine rS c19_l c19_r rfl ?_
                refine run_region rfl ?_
                simp only [sX, simprocAttr, -List.reduceReplicate]
                refine rS c19_rl c19_rr rfl ?_
                refine rS c19_rll c19_rlr rfl ?_
                refine run_drawG rfl c19_rll_ok c19_rll_dr c19_rll_gs ?_
                simp only [sX, simprocAttr, -List.reduceReplicate]
                refine call_of (kidsR_ok _ _ _) ?_
                rintro v H2 ⟨rfl, h2⟩
                subst h2
                simp only [sX, simprocAttr, -List.reduceReplicate, e1, ek, es, set_neq']
                refine rF c19_rlrt c19_rlre rfl rfl ?_
                refine run_skip rfl ?_
                simp only [sP]
                refine rS c19_rrl c19_rrr rfl ?_
                refine rS c19_rrll c19_rrlr rfl ?_
                refine run_region rfl ?_
                simp only [sX, simprocAttr, -List.reduceReplicate]
                refine run_block (b := c19_rrlrb) rfl ?_
                (refine run_loopk (b := c19_rrlrbo) rfl keep19_4 ?_; simp only [sC, Nat.reduceBEq, Nat.reduceAdd])
                refine rS c19_rrlrbol c19_rrlrbor rfl ?_
                refine rS c19_rrlrboll c19_rrlrbolr rfl ?_
                refine run_region rfl ?_
                simp only [sX, simprocAttr, -List.reduceReplicate]
                refine rT c19_rrlrbolrt c19_rrlrbolre rfl rfl ?_
                refine run_skip rfl ?_
                simp only [sP]
                refine rS c19_rrlrborl c19_rrlrborr rfl ?_
                refine run_block (b := c19_rrlrborlb) rfl ?_
                refine rS c19_rrlrborlbl c19_rrlrborlbr rfl ?_
                refine run_region rfl ?_
                simp only [sX, simprocAttr, -List.reduceReplicate, ho]
                refine call_of hca ?_
                rintro v H2 ⟨rfl, h2⟩
                subst h2
                rw [hsa]
                simp only [sX, simprocAttr, -List.reduceReplicate]
                refine rF c19_rrlrborlbrt c19_rrlrborlbre rfl rfl ?_
                refine run_skip rfl ?_
                simp only [sP]
                refine run_region rfl ?_
                simp only [sX, simprocAttr, -List.reduceReplicate]
                (refine run_loopk (b := c19_rrlrbo) rfl keep19_4 ?_; simp only [sC, Nat.reduceBEq, Nat.reduceAdd])
                refine rS c19_rrlrbol c19_rrlrbor rfl ?_
                refine rS c19_rrlrboll c19_rrlrbolr rfl ?_
                refine run_region rfl ?_
                simp only [sX, simprocAttr, -List.reduceReplicate]
                refine rT c19_rrlrbolrt c19_rrlrbolre rfl rfl ?_
                refine run_skip rfl ?_
                simp only [sP]
                refine rS c19_rrlrborl c19_rrlrborr rfl ?_
                refine run_block (b := c19_rrlrborlb) rfl ?_
                refine rS c19_rrlrborlbl c19_rrlrborlbr rfl ?_
                refine run_region rfl ?_
                simp only [sX, simprocAttr, -List.reduceReplicate, ho]
                refine call_of hcb ?_
                rintro v H2 ⟨rfl, h2⟩
                subst h2
                rw [hsb]
                simp only [sX, simprocAttr, -List.reduceReplicate]
                refine rT c19_rrlrborlbrt c19_rrlrborlbre rfl rfl ?_
                refine rS c19_rrlrborlbrtl c19_rrlrborlbrtr rfl ?_
                refine run_region rfl ?_
                simp only [sX, simprocAttr, -List.reduceReplicate]
                refine run_ret rfl ?_
                (simp only [sP]; refine ⟨_, (by rw [resultsA_eq Try.results19]; simp only [sR, List.mapM_cons, List.mapM_nil]; rfl), ?_⟩)
                exact ⟨rfl, trivial⟩
            | false =>
              have hv : (Tr.node k s [a, b]).shp = false := by simp [Tr.shp, shpL, hsa]
              rw [hv]
              (refine call_intro fun19 name19 body19 ?_; simp only [Try.ntmps19, List.map_cons, List.map_nil, List.length_cons, List.length_nil, Nat.zero_add, Nat.reduceSub, List.replicate_succ, List.replicate_zero, List.cons_append, List.nil_append])
              refine rS c19_l c19_r rfl ?_
              refine run_region rfl ?_
              simp only [sX, simprocAttr, -List.reduceReplicate]
              refine rS c19_rl c19_rr rfl ?_
              refine rS c19_rll c19_rlr rfl ?_
              refine run_drawG rfl c19_rll_ok c19_rll_dr c19_rll_gs ?_
              simp only [sX, simprocAttr, -List.reduceReplicate]
              refine call_of (kidsR_ok _ _ _) ?_
              rintro v H2 ⟨rfl, h2⟩
              subst h2
              simp only [sX, simprocAttr, -List.reduceReplicate, e1, ek, es, set_neq']
              refine rF c19_rlrt c19_rlre rfl rfl ?_
              refine run_skip rfl ?_
              simp only [sP]
              refine rS c19_rrl c19_rrr rfl ?_
              refine rS c19_rrll c19_rrlr rfl ?_
              refine run_region rfl ?_
              simp only [sX, simprocAttr, -List.reduceReplicate]
              refine run_block (b := c19_rrlrb) rfl ?_
              (refine run_loopk (b := c19_rrlrbo) rfl keep19_4 ?_; simp only [sC, Nat.reduceBEq, Nat.reduceAdd])
              refine rS c19_rrlrbol c19_rrlrbor rfl ?_
              refine rS c19_rrlrboll c19_rrlrbolr rfl ?_
              refine run_region rfl ?_
              simp only [sX, simprocAttr, -List.reduceReplicate]
              refine rT c19_rrlrbolrt c19_rrlrbolre rfl rfl ?_
              refine run_skip rfl ?_
              simp only [sP]
              refine rS c19_rrlrborl c19_rrlrborr rfl ?_
              refine run_block (b := c19_rrlrborlb) rfl ?_
              refine rS c19_rrlrborlbl c19_rrlrborlbr rfl ?_
              refine run_region rfl ?_
              simp only [sX, simprocAttr, -List.reduceReplicate, ho]
              refine call_of hca ?_
              rintro v H2 ⟨rfl, h2⟩
              subst h2
              rw [hsa]
              simp only [sX, simprocAttr, -List.reduceReplicate]
              refine rT c19_rrlrborlbrt c19_rrlrborlbre rfl rfl ?_
              refine rS c19_rrlrborlbrtl c19_rrlrborlbrtr rfl ?_
              refine run_region rfl ?_
              simp only [sX, simprocAttr, -List.reduceReplicate]
              refine run_ret rfl ?_
              (simp only [sP]; refine ⟨_, (by rw [resultsA_eq Try.results19]; simp only [sR, List.mapM_cons, List.mapM_nil]; rfl), ?_⟩)
              exact ⟨rfl, trivial⟩
          | a :: b :: c :: l, hT, hI, hm, e1 =>
            exfalso
            simp only [List.length_cons] at hm
            unfold kidsN at hm
            split at hm
            · omega
            · split at hm
              · omega
              · split at hm <;> omega
        · have ek : decide (k = 1) = false := by simp; exact fun h => hb (.inl h)
          have es : decide (s = S4.z) = false := by simp; exact fun h => hb (.inr h)
          have hv : (Tr.node k s l).shp = false := by simp only [Tr.shp, ek, es]; simp
          rw [hv]
          (refine call_intro fun19 name19 body19 ?_; simp only [Try.ntmps19, List.map_cons, List.map_nil, List.length_cons, List.length_nil, Nat.zero_add, Nat.reduceSub, List.replicate_succ, List.replicate_zero, List.cons_append, List.nil_append])
          refine rS c19_l c19_r rfl ?_
          refine run_region rfl ?_
          simp only [sX, simprocAttr, -List.reduceReplicate]
          refine rS c19_rl c19_rr rfl ?_
          refine rS c19_rll c19_rlr rfl ?_
          refine run_drawG rfl c19_rll_ok c19_rll_dr c19_rll_gs ?_
          simp only [sX, simprocAttr, -List.reduceReplicate]
          refine call_of (kidsR_ok _ _ _) ?_
          rintro v H2 ⟨rfl, h2⟩
          subst h2
          simp only [sX, simprocAttr, -List.reduceReplicate, e1, ek, es, set_neq']
          refine rT c19_rlrt c19_rlre rfl rfl ?_
          refine rS c19_rlrtl c19_rlrtr rfl ?_
          refine run_region rfl ?_
          simp only [sX, simprocAttr, -List.reduceReplicate]
          refine run_ret rfl ?_
          (simp only [sP]; refine ⟨_, (by rw [resultsA_eq Try.results19]; simp only [sR, List.mapM_cons, List.mapM_nil]; rfl), ?_⟩)
          exact ⟨rfl, trivial⟩
      · have e1 : decide ((l.length : Int) = kidsN k) = false := by simp; exact fun h => hm h.symm
        have hv : (Tr.node k s l).shp = false := by simp [Tr.shp, hm]
        rw [hv]
        (refine call_intro fun19 name19 body19 ?_; simp only [Try.ntmps19, List.map_cons, List.map_nil, List.length_cons, List.length_nil, Nat.zero_add, Nat.reduceSub, List.replicate_succ, List.replicate_zero, List.cons_append, List.nil_append])
        refine rS c19_l c19_r rfl ?_
        refine run_region rfl ?_
        simp only [sX, simprocAttr, -List.reduceReplicate]
        refine rS c19_rl c19_rr rfl ?_
        refine rS c19_rll c19_rlr rfl ?_
        refine run_drawG rfl c19_rll_ok c19_rll_dr c19_rll_gs ?_
        simp only [sX, simprocAttr, -List.reduceReplicate]
        refine call_of (kidsR_ok _ _ _) ?_
        rintro v H2 ⟨rfl, h2⟩
        subst h2
        simp only [sX, simprocAttr, -List.reduceReplicate, e1]
        refine rT c19_rlrt c19_rlre rfl rfl ?_
        refine rS c19_rlrtl c19_rlrtr rfl ?_
        refine run_region rfl ?_
        simp only [sX, simprocAttr, -List.reduceReplicate]
        refine run_ret rfl ?_
        (simp only [sP]; refine ⟨_, (by rw [resultsA_eq Try.results19]; simp only [sR, List.mapM_cons, List.mapM_nil]; rfl), ?_⟩)
        exact ⟨rfl, trivial⟩

/-- It has no more kids than its kind may have; nor they. -/
theorem deepR : ∀ {T : Tr}, Ok T → ∀ (lim : Nat) (H : Hp) (S : Nat → Prop) (p : Option Addr) (n : Nat) (m : Int), IsRe H S T (reC T.k T.s p n) → (T.ht : Int) ≤ m → m ≤ 1000 →
    CallEx X lim 20 [reV T.k T.s p n, .int .i64 m] H fun v H1 => v = .bool true ∧ H1 = H := by
  intro T hT
  induction hT with
  | empty =>
    intro lim H S p n m hI h0 h1
    obtain ⟨rfl, rfl⟩ := hI.inv0
    unfold reV
    have hd : decide (m = 0) = false := by simp only [Tr.ht, htL] at h0; simp; omega
    (refine call_intro fun20 name20 body20 ?_; simp only [Try.ntmps20, List.map_cons, List.map_nil, List.length_cons, List.length_nil, Nat.zero_add, Nat.reduceAdd, Nat.reduceSub, List.replicate_succ, List.replicate_zero, List.cons_append, List.nil_append])
    refine rS c20_l c20_r rfl ?_
    refine run_region rfl ?_
    simp only [sX, simprocAttr, -List.reduceReplicate]
    refine rS c20_rl c20_rr rfl ?_
    refine rS c20_rll c20_rlr rfl ?_
    refine run_region rfl ?_
    simp only [sX, simprocAttr, -List.reduceReplicate, hd]
    refine rF c20_rlrt c20_rlre rfl rfl ?_
    refine run_skip rfl ?_
    simp only [sP]
    refine rS c20_rrl c20_rrr rfl ?_
    refine rS c20_rrll c20_rrlr rfl ?_
    refine run_region rfl ?_
    simp only [sX, simprocAttr, -List.reduceReplicate]
    refine run_block (b := c20_rrlrb) rfl ?_
    (refine run_loopk (b := c20_rrlrbo) rfl keep20_4 ?_; simp only [sC, Nat.reduceBEq, Nat.reduceAdd])
    refine rS c20_rrlrbol c20_rrlrbor rfl ?_
    refine rS c20_rrlrboll c20_rrlrbolr rfl ?_
    refine run_region rfl ?_
    simp only [sX, simprocAttr, -List.reduceReplicate]
    refine rF c20_rrlrbolrt c20_rrlrbolre rfl rfl ?_
    refine run_exit rfl ?_
    simp only [sP, if_true]
    refine rS c20_rrrl c20_rrrr rfl ?_
    refine run_region rfl ?_
    simp only [sX, simprocAttr, -List.reduceReplicate]
    refine run_ret rfl ?_
    (simp only [sP]; refine ⟨_, (by rw [resultsA_eq Try.results20]; simp only [sR, List.mapM_cons, List.mapM_nil]; rfl), ?_⟩)
    exact ⟨rfl, trivial⟩
  | set s =>
    intro lim H S p n m hI h0 h1
    obtain ⟨rfl, rfl⟩ := hI.inv0
    unfold reV
    have hd : decide (m = 0) = false := by simp only [Tr.ht, htL] at h0; simp; omega
    (refine call_intro fun20 name20 body20 ?_; simp only [Try.ntmps20, List.map_cons, List.map_nil, List.length_cons, List.length_nil, Nat.zero_add, Nat.reduceAdd, Nat.reduceSub, List.replicate_succ, List.replicate_zero, List.cons_append, List.nil_append])
    refine rS c20_l c20_r rfl ?_
    refine run_region rfl ?_
    simp only [sX, simprocAttr, -List.reduceReplicate]
    refine rS c20_rl c20_rr rfl ?_
    refine rS c20_rll c20_rlr rfl ?_
    refine run_region rfl ?_
    simp only [sX, simprocAttr, -List.reduceReplicate, hd]
    refine rF c20_rlrt c20_rlre rfl rfl ?_
    refine run_skip rfl ?_
    simp only [sP]
    refine rS c20_rrl c20_rrr rfl ?_
    refine rS c20_rrll c20_rrlr rfl ?_
    refine run_region rfl ?_
    simp only [sX, simprocAttr, -List.reduceReplicate]
    refine run_block (b := c20_rrlrb) rfl ?_
    (refine run_loopk (b := c20_rrlrbo) rfl keep20_4 ?_; simp only [sC, Nat.reduceBEq, Nat.reduceAdd])
    refine rS c20_rrlrbol c20_rrlrbor rfl ?_
    refine rS c20_rrlrboll c20_rrlrbolr rfl ?_
    refine run_region rfl ?_
    simp only [sX, simprocAttr, -List.reduceReplicate]
    refine rF c20_rrlrbolrt c20_rrlrbolre rfl rfl ?_
    refine run_exit rfl ?_
    simp only [sP, if_true]
    refine rS c20_rrrl c20_rrrr rfl ?_
    refine run_region rfl ?_
    simp only [sX, simprocAttr, -List.reduceReplicate]
    refine run_ret rfl ?_
    (simp only [sP]; refine ⟨_, (by rw [resultsA_eq Try.results20]; simp only [sR, List.mapM_cons, List.mapM_nil]; rfl), ?_⟩)
    exact ⟨rfl, trivial⟩
  | @cat a b _ _ iha ihb =>
    intro lim H S p n m hI h0 h1
    obtain ⟨rfl, bl, wr, p1, p2, rfl, _, ho, ha, hb⟩ := hI.inv2
    unfold reC at ho
    simp only [List.cons_append, List.nil_append] at ho
    unfold reV at iha ihb ⊢
    simp only [Tr.ht, htL] at h0
    have hd : decide (m = 0) = false := by simp; omega
    have hd1 : IntKind.i64.wrap (m - 1) = m - 1 := IntWalk.i64_in _ (by omega)
    have hca := iha lim H S p1 _ (m - 1) ha (by omega) (by omega)
    have hcb := ihb lim H S p2 _ m hb (by omega) (by omega)
    (refine call_intro fun20 name20 body20 ?_; simp only [Try.ntmps20, List.map_cons, List.map_nil, List.length_cons, List.length_nil, Nat.zero_add, Nat.reduceAdd, Nat.reduceSub, List.replicate_succ, List.replicate_zero, List.cons_append, List.nil_append])
    refine rS c20_l c20_r rfl ?_
    refine run_region rfl ?_
    simp only [sX, simprocAttr, -List.reduceReplicate]
    refine rS c20_rl c20_rr rfl ?_
    refine rS c20_rll c20_rlr rfl ?_
    refine run_region rfl ?_
    simp only [sX, simprocAttr, -List.reduceReplicate, hd]
    refine rF c20_rlrt c20_rlre rfl rfl ?_
    refine run_skip rfl ?_
    simp only [sP]
    refine rS c20_rrl c20_rrr rfl ?_
    refine rS c20_rrll c20_rrlr rfl ?_
    refine run_region rfl ?_
    simp only [sX, simprocAttr, -List.reduceReplicate]
    refine run_block (b := c20_rrlrb) rfl ?_
    (refine run_loopk (b := c20_rrlrbo) rfl keep20_4 ?_; simp only [sC, Nat.reduceBEq, Nat.reduceAdd])
    refine rS c20_rrlrbol c20_rrlrbor rfl ?_
    refine rS c20_rrlrboll c20_rrlrbolr rfl ?_
    refine run_region rfl ?_
    simp only [sX, simprocAttr, -List.reduceReplicate]
    refine rT c20_rrlrbolrt c20_rrlrbolre rfl rfl ?_
    refine run_skip rfl ?_
    simp only [sP]
    refine rS c20_rrlrborl c20_rrlrborr rfl ?_
    refine run_block (b := c20_rrlrborlb) rfl ?_
    refine rS c20_rrlrborlbl c20_rrlrborlbr rfl ?_
    refine run_region rfl ?_
    simp only [sX, simprocAttr, -List.reduceReplicate, hd1]
    refine rS c20_rrlrborlbrl c20_rrlrborlbrr rfl ?_
    refine rS c20_rrlrborlbrll c20_rrlrborlbrlr rfl ?_
    refine run_regionG rfl c20_rrlrborlbrll_gs ?_
    simp only [sX, simprocAttr, -List.reduceReplicate]
    refine rF c20_rrlrborlbrlrt c20_rrlrborlbrlre rfl rfl ?_
    refine run_skip rfl ?_
    simp only [sP]
    refine rS c20_rrlrborlbrrl c20_rrlrborlbrrr rfl ?_
    refine run_region rfl ?_
    simp only [sX, simprocAttr, -List.reduceReplicate, ho]
    refine call_of hca ?_
    rintro v H2 ⟨rfl, h2⟩
    subst h2
    simp only [sX, simprocAttr, -List.reduceReplicate]
    refine rF c20_rrlrborlbrrrt c20_rrlrborlbrrre rfl rfl ?_
    refine run_skip rfl ?_
    simp only [sP]
    refine run_region rfl ?_
    simp only [sX, simprocAttr, -List.reduceReplicate]
    (refine run_loopk (b := c20_rrlrbo) rfl keep20_4 ?_; simp only [sC, Nat.reduceBEq, Nat.reduceAdd])
    refine rS c20_rrlrbol c20_rrlrbor rfl ?_
    refine rS c20_rrlrboll c20_rrlrbolr rfl ?_
    refine run_region rfl ?_
    simp only [sX, simprocAttr, -List.reduceReplicate]
    refine rT c20_rrlrbolrt c20_rrlrbolre rfl rfl ?_
    refine run_skip rfl ?_
    simp only [sP]
    refine rS c20_rrlrborl c20_rrlrborr rfl ?_
    refine run_block (b := c20_rrlrborlb) rfl ?_
    refine rS c20_rrlrborlbl c20_rrlrborlbr rfl ?_
    refine run_region rfl ?_
    simp only [sX, simprocAttr, -List.reduceReplicate, hd1]
    refine rS c20_rrlrborlbrl c20_rrlrborlbrr rfl ?_
    refine rS c20_rrlrborlbrll c20_rrlrborlbrlr rfl ?_
    refine run_regionG rfl c20_rrlrborlbrll_gs ?_
    simp only [sX, simprocAttr, -List.reduceReplicate]
    refine rT c20_rrlrborlbrlrt c20_rrlrborlbrlre rfl rfl ?_
    refine run_region rfl ?_
    simp only [sX, simprocAttr, -List.reduceReplicate]
    refine rS c20_rrlrborlbrrl c20_rrlrborlbrrr rfl ?_
    refine run_region rfl ?_
    simp only [sX, simprocAttr, -List.reduceReplicate, ho]
    refine call_of hcb ?_
    rintro v H2 ⟨rfl, h2⟩
    subst h2
    simp only [sX, simprocAttr, -List.reduceReplicate]
    refine rF c20_rrlrborlbrrrt c20_rrlrborlbrrre rfl rfl ?_
    refine run_skip rfl ?_
    simp only [sP]
    refine run_region rfl ?_
    simp only [sX, simprocAttr, -List.reduceReplicate]
    (refine run_loopk (b := c20_rrlrbo) rfl keep20_4 ?_; simp only [sC, Nat.reduceBEq, Nat.reduceAdd])
    refine rS c20_rrlrbol c20_rrlrbor rfl ?_
    refine rS c20_rrlrboll c20_rrlrbolr rfl ?_
    refine run_region rfl ?_
    simp only [sX, simprocAttr, -List.reduceReplicate]
    refine rF c20_rrlrbolrt c20_rrlrbolre rfl rfl ?_
    refine run_exit rfl ?_
    simp only [sP, if_true]
    refine rS c20_rrrl c20_rrrr rfl ?_
    refine run_region rfl ?_
    simp only [sX, simprocAttr, -List.reduceReplicate]
    refine run_ret rfl ?_
    (simp only [sP]; refine ⟨_, (by rw [resultsA_eq Try.results20]; simp only [sR, List.mapM_cons, List.mapM_nil]; rfl), ?_⟩)
    exact ⟨rfl, trivial⟩
  | @alt a b _ _ iha ihb =>
    intro lim H S p n m hI h0 h1
    obtain ⟨rfl, bl, wr, p1, p2, rfl, _, ho, ha, hb⟩ := hI.inv2
    unfold reC at ho
    simp only [List.cons_append, List.nil_append] at ho
    unfold reV at iha ihb ⊢
    simp only [Tr.ht, htL] at h0
    have hd : decide (m = 0) = false := by simp; omega
    have hd1 : IntKind.i64.wrap (m - 1) = m - 1 := IntWalk.i64_in _ (by omega)
    have hca := iha lim H S p1 _ (m - 1) ha (by omega) (by omega)
    have hcb := ihb lim H S p2 _ m hb (by omega) (by omega)
    (refine call_intro fun20 name20 body20 ?_; simp only [Try.ntmps20, List.map_cons, List.map_nil, List.length_cons, List.length_nil, Nat.zero_add, Nat.reduceAdd, Nat.reduceSub, List.replicate_succ, List.replicate_zero, List.cons_append, List.nil_append])
    refine rS c20_l c20_r rfl ?_
    refine run_region rfl ?_
    simp only [sX, simprocAttr, -List.reduceReplicate]
    refine rS c20_rl c20_rr rfl ?_
    refine rS c20_rll c20_rlr rfl ?_
    refine run_region rfl ?_
    simp only [sX, simprocAttr, -List.reduceReplicate, hd]
    refine rF c20_rlrt c20_rlre rfl rfl ?_
    refine run_skip rfl ?_
    simp only [sP]
    refine rS c20_rrl c20_rrr rfl ?_
    refine rS c20_rrll c20_rrlr rfl ?_
    refine run_region rfl ?_
    simp only [sX, simprocAttr, -List.reduceReplicate]
    refine run_block (b := c20_rrlrb) rfl ?_
    (refine run_loopk (b := c20_rrlrbo) rfl keep20_4 ?_; simp only [sC, Nat.reduceBEq, Nat.reduceAdd])
    refine rS c20_rrlrbol c20_rrlrbor rfl ?_
    refine rS c20_rrlrboll c20_rrlrbolr rfl ?_
    refine run_region rfl ?_
    simp only [sX, simprocAttr, -List.reduceReplicate]
    refine rT c20_rrlrbolrt c20_rrlrbolre rfl rfl ?_
    refine run_skip rfl ?_
    simp only [sP]
    refine rS c20_rrlrborl c20_rrlrborr rfl ?_
    refine run_block (b := c20_rrlrborlb) rfl ?_
    refine rS c20_rrlrborlbl c20_rrlrborlbr rfl ?_
    refine run_region rfl ?_
    simp only [sX, simprocAttr, -List.reduceReplicate, hd1]
    refine rS c20_rrlrborlbrl c20_rrlrborlbrr rfl ?_
    refine rS c20_rrlrborlbrll c20_rrlrborlbrlr rfl ?_
    refine run_regionG rfl c20_rrlrborlbrll_gs ?_
    simp only [sX, simprocAttr, -List.reduceReplicate]
    refine rF c20_rrlrborlbrlrt c20_rrlrborlbrlre rfl rfl ?_
    refine run_skip rfl ?_
    simp only [sP]
    refine rS c20_rrlrborlbrrl c20_rrlrborlbrrr rfl ?_
    refine run_region rfl ?_
    simp only [sX, simprocAttr, -List.reduceReplicate, ho]
    refine call_of hca ?_
    rintro v H2 ⟨rfl, h2⟩
    subst h2
    simp only [sX, simprocAttr, -List.reduceReplicate]
    refine rF c20_rrlrborlbrrrt c20_rrlrborlbrrre rfl rfl ?_
    refine run_skip rfl ?_
    simp only [sP]
    refine run_region rfl ?_
    simp only [sX, simprocAttr, -List.reduceReplicate]
    (refine run_loopk (b := c20_rrlrbo) rfl keep20_4 ?_; simp only [sC, Nat.reduceBEq, Nat.reduceAdd])
    refine rS c20_rrlrbol c20_rrlrbor rfl ?_
    refine rS c20_rrlrboll c20_rrlrbolr rfl ?_
    refine run_region rfl ?_
    simp only [sX, simprocAttr, -List.reduceReplicate]
    refine rT c20_rrlrbolrt c20_rrlrbolre rfl rfl ?_
    refine run_skip rfl ?_
    simp only [sP]
    refine rS c20_rrlrborl c20_rrlrborr rfl ?_
    refine run_block (b := c20_rrlrborlb) rfl ?_
    refine rS c20_rrlrborlbl c20_rrlrborlbr rfl ?_
    refine run_region rfl ?_
    simp only [sX, simprocAttr, -List.reduceReplicate, hd1]
    refine rS c20_rrlrborlbrl c20_rrlrborlbrr rfl ?_
    refine rS c20_rrlrborlbrll c20_rrlrborlbrlr rfl ?_
    refine run_regionG rfl c20_rrlrborlbrll_gs ?_
    simp only [sX, simprocAttr, -List.reduceReplicate]
    refine rT c20_rrlrborlbrlrt c20_rrlrborlbrlre rfl rfl ?_
    refine run_region rfl ?_
    simp only [sX, simprocAttr, -List.reduceReplicate]
    refine rS c20_rrlrborlbrrl c20_rrlrborlbrrr rfl ?_
    refine run_region rfl ?_
    simp only [sX, simprocAttr, -List.reduceReplicate, ho]
    refine call_of hcb ?_
    rintro v H2 ⟨rfl, h2⟩
    subst h2
    simp only [sX, simprocAttr, -List.reduceReplicate]
    refine rF c20_rrlrborlbrrrt c20_rrlrborlbrrre rfl rfl ?_
    refine run_skip rfl ?_
    simp only [sP]
    refine run_region rfl ?_
    simp only [sX, simprocAttr, -List.reduceReplicate]
    (refine run_loopk (b := c20_rrlrbo) rfl keep20_4 ?_; simp only [sC, Nat.reduceBEq, Nat.reduceAdd])
    refine rS c20_rrlrbol c20_rrlrbor rfl ?_
    refine rS c20_rrlrboll c20_rrlrbolr rfl ?_
    refine run_region rfl ?_
    simp only [sX, simprocAttr, -List.reduceReplicate]
    refine rF c20_rrlrbolrt c20_rrlrbolre rfl rfl ?_
    refine run_exit rfl ?_
    simp only [sP, if_true]
    refine rS c20_rrrl c20_rrrr rfl ?_
    refine run_region rfl ?_
    simp only [sX, simprocAttr, -List.reduceReplicate]
    refine run_ret rfl ?_
    (simp only [sP]; refine ⟨_, (by rw [resultsA_eq Try.results20]; simp only [sR, List.mapM_cons, List.mapM_nil]; rfl), ?_⟩)
    exact ⟨rfl, trivial⟩
  | @star a _ iha =>
    intro lim H S p n m hI h0 h1
    obtain ⟨rfl, bl, wr, p1, rfl, _, ho, ha⟩ := hI.inv1
    unfold reC at ho
    unfold reV at iha ⊢
    simp only [Tr.ht, htL] at h0
    have hd : decide (m = 0) = false := by simp; omega
    have hd1 : IntKind.i64.wrap (m - 1) = m - 1 := IntWalk.i64_in _ (by omega)
    have hca := iha lim H S p1 _ (m - 1) ha (by omega) (by omega)
    (refine call_intro fun20 name20 body20 ?_; simp only [Try.ntmps20, List.map_cons, List.map_nil, List.length_cons, List.length_nil, Nat.zero_add, Nat.reduceAdd, Nat.reduceSub, List.replicate_succ, List.replicate_zero, List.cons_append, List.nil_append])
    refine rS c20_l c20_r rfl ?_
    refine run_region rfl ?_
    simp only [sX, simprocAttr, -List.reduceReplicate]
    refine rS c20_rl c20_rr rfl ?_
    refine rS c20_rll c20_rlr rfl ?_
    refine run_region rfl ?_
    simp only [sX, simprocAttr, -List.reduceReplicate, hd]
    refine rF c20_rlrt c20_rlre rfl rfl ?_
    refine run_skip rfl ?_
    simp only [sP]
    refine rS c20_rrl c20_rrr rfl ?_
    refine rS c20_rrll c20_rrlr rfl ?_
    refine run_region rfl ?_
    simp only [sX, simprocAttr, -List.reduceReplicate]
    refine run_block (b := c20_rrlrb) rfl ?_
    (refine run_loopk (b := c20_rrlrbo) rfl keep20_4 ?_; simp only [sC, Nat.reduceBEq, Nat.reduceAdd])
    refine rS c20_rrlrbol c20_rrlrbor rfl ?_
    refine rS c20_rrlrboll c20_rrlrbolr rfl ?_
    refine run_region rfl ?_
    simp only [sX, simprocAttr, -List.reduceReplicate]
    refine rT c20_rrlrbolrt c20_rrlrbolre rfl rfl ?_
    refine run_skip rfl ?_
    simp only [sP]
    refine rS c20_rrlrborl c20_rrlrborr rfl ?_
    refine run_block (b := c20_rrlrborlb) rfl ?_
    refine rS c20_rrlrborlbl c20_rrlrborlbr rfl ?_
    refine run_region rfl ?_
    simp only [sX, simprocAttr, -List.reduceReplicate, hd1]
    refine rS c20_rrlrborlbrl c20_rrlrborlbrr rfl ?_
    refine rS c20_rrlrborlbrll c20_rrlrborlbrlr rfl ?_
    refine run_regionG rfl c20_rrlrborlbrll_gs ?_
    simp only [sX, simprocAttr, -List.reduceReplicate]
    refine rF c20_rrlrborlbrlrt c20_rrlrborlbrlre rfl rfl ?_
    refine run_skip rfl ?_
    simp only [sP]
    refine rS c20_rrlrborlbrrl c20_rrlrborlbrrr rfl ?_
    refine run_region rfl ?_
    simp only [sX, simprocAttr, -List.reduceReplicate, ho]
    refine call_of hca ?_
    rintro v H2 ⟨rfl, h2⟩
    subst h2
    simp only [sX, simprocAttr, -List.reduceReplicate]
    refine rF c20_rrlrborlbrrrt c20_rrlrborlbrrre rfl rfl ?_
    refine run_skip rfl ?_
    simp only [sP]
    refine run_region rfl ?_
    simp only [sX, simprocAttr, -List.reduceReplicate]
    (refine run_loopk (b := c20_rrlrbo) rfl keep20_4 ?_; simp only [sC, Nat.reduceBEq, Nat.reduceAdd])
    refine rS c20_rrlrbol c20_rrlrbor rfl ?_
    refine rS c20_rrlrboll c20_rrlrbolr rfl ?_
    refine run_region rfl ?_
    simp only [sX, simprocAttr, -List.reduceReplicate]
    refine rF c20_rrlrbolrt c20_rrlrbolre rfl rfl ?_
    refine run_exit rfl ?_
    simp only [sP, if_true]
    refine rS c20_rrrl c20_rrrr rfl ?_
    refine run_region rfl ?_
    simp only [sX, simprocAttr, -List.reduceReplicate]
    refine run_ret rfl ?_
    (simp only [sP]; refine ⟨_, (by rw [resultsA_eq Try.results20]; simp only [sR, List.mapM_cons, List.mapM_nil]; rfl), ?_⟩)
    exact ⟨rfl, trivial⟩
  | @plus a _ iha =>
    intro lim H S p n m hI h0 h1
    obtain ⟨rfl, bl, wr, p1, rfl, _, ho, ha⟩ := hI.inv1
    unfold reC at ho
    unfold reV at iha ⊢
    simp only [Tr.ht, htL] at h0
    have hd : decide (m = 0) = false := by simp; omega
    have hd1 : IntKind.i64.wrap (m - 1) = m - 1 := IntWalk.i64_in _ (by omega)
    have hca := iha lim H S p1 _ (m - 1) ha (by omega) (by omega)
    (refine call_intro fun20 name20 body20 ?_; simp only [Try.ntmps20, List.map_cons, List.map_nil, List.length_cons, List.length_nil, Nat.zero_add, Nat.reduceAdd, Nat.reduceSub, List.replicate_succ, List.replicate_zero, List.cons_append, List.nil_append])
    refine rS c20_l c20_r rfl ?_
    refine run_region rfl ?_
    simp only [sX, simprocAttr, -List.reduceReplicate]
    refine rS c20_rl c20_rr rfl ?_
    refine rS c20_rll c20_rlr rfl ?_
    refine run_region rfl ?_
    simp only [sX, simprocAttr, -List.reduceReplicate, hd]
    refine rF c20_rlrt c20_rlre rfl rfl ?_
    refine run_skip rfl ?_
    simp only [sP]
    refine rS c20_rrl c20_rrr rfl ?_
    refine rS c20_rrll c20_rrlr rfl ?_
    refine run_region rfl ?_
    simp only [sX, simprocAttr, -List.reduceReplicate]
    refine run_block (b := c20_rrlrb) rfl ?_
    (refine run_loopk (b := c20_rrlrbo) rfl keep20_4 ?_; simp only [sC, Nat.reduceBEq, Nat.reduceAdd])
    refine rS c20_rrlrbol c20_rrlrbor rfl ?_
    refine rS c20_rrlrboll c20_rrlrbolr rfl ?_
    refine run_region rfl ?_
    simp only [sX, simprocAttr, -List.reduceReplicate]
    refine rT c20_rrlrbolrt c20_rrlrbolre rfl rfl ?_
    refine run_skip rfl ?_
    simp only [sP]
    refine rS c20_rrlrborl c20_rrlrborr rfl ?_
    refine run_block (b := c20_rrlrborlb) rfl ?_
    refine rS c20_rrlrborlbl c20_rrlrborlbr rfl ?_
    refine run_region rfl ?_
    simp only [sX, simprocAttr, -List.reduceReplicate, hd1]
    refine rS c20_rrlrborlbrl c20_rrlrborlbrr rfl ?_
    refine rS c20_rrlrborlbrll c20_rrlrborlbrlr rfl ?_
    refine run_regionG rfl c20_rrlrborlbrll_gs ?_
    simp only [sX, simprocAttr, -List.reduceReplicate]
    refine rF c20_rrlrborlbrlrt c20_rrlrborlbrlre rfl rfl ?_
    refine run_skip rfl ?_
    simp only [sP]
    refine rS c20_rrlrborlbrrl c20_rrlrborlbrrr rfl ?_
    refine run_region rfl ?_
    simp only [sX, simprocAttr, -List.reduceReplicate, ho]
    refine call_of hca ?_
    rintro v H2 ⟨rfl, h2⟩
    subst h2
    simp only [sX, simprocAttr, -List.reduceReplicate]
    refine rF c20_rrlrborlbrrrt c20_rrlrborlbrrre rfl rfl ?_
    refine run_skip rfl ?_
    simp only [sP]
    refine run_region rfl ?_
    simp only [sX, simprocAttr, -List.reduceReplicate]
    (refine run_loopk (b := c20_rrlrbo) rfl keep20_4 ?_; simp only [sC, Nat.reduceBEq, Nat.reduceAdd])
    refine rS c20_rrlrbol c20_rrlrbor rfl ?_
    refine rS c20_rrlrboll c20_rrlrbolr rfl ?_
    refine run_region rfl ?_
    simp only [sX, simprocAttr, -List.reduceReplicate]
    refine rF c20_rrlrbolrt c20_rrlrbolre rfl rfl ?_
    refine run_exit rfl ?_
    simp only [sP, if_true]
    refine rS c20_rrrl c20_rrrr rfl ?_
    refine run_region rfl ?_
    simp only [sX, simprocAttr, -List.reduceReplicate]
    refine run_ret rfl ?_
    (simp only [sP]; refine ⟨_, (by rw [resultsA_eq Try.results20]; simp only [sR, List.mapM_cons, List.mapM_nil]; rfl), ?_⟩)
    exact ⟨rfl, trivial⟩
  | @opt a _ iha =>
    intro lim H S p n m hI h0 h1
    obtain ⟨rfl, bl, wr, p1, rfl, _, ho, ha⟩ := hI.inv1
    unfold reC at ho
    unfold reV at iha ⊢
    simp only [Tr.ht, htL] at h0
    have hd : decide (m = 0) = false := by simp; omega
    have hd1 : IntKind.i64.wrap (m - 1) = m - 1 := IntWalk.i64_in _ (by omega)
    have hca := iha lim H S p1 _ (m - 1) ha (by omega) (by omega)
    (refine call_intro fun20 name20 body20 ?_; simp only [Try.ntmps20, List.map_cons, List.map_nil, List.length_cons, List.length_nil, Nat.zero_add, Nat.reduceAdd, Nat.reduceSub, List.replicate_succ, List.replicate_zero, List.cons_append, List.nil_append])
    refine rS c20_l c20_r rfl ?_
    refine run_region rfl ?_
    simp only [sX, simprocAttr, -List.reduceReplicate]
    refine rS c20_rl c20_rr rfl ?_
    refine rS c20_rll c20_rlr rfl ?_
    refine run_region rfl ?_
    simp only [sX, simprocAttr, -List.reduceReplicate, hd]
    refine rF c20_rlrt c20_rlre rfl rfl ?_
    refine run_skip rfl ?_
    simp only [sP]
    refine rS c20_rrl c20_rrr rfl ?_
    refine rS c20_rrll c20_rrlr rfl ?_
    refine run_region rfl ?_
    simp only [sX, simprocAttr, -List.reduceReplicate]
    refine run_block (b := c20_rrlrb) rfl ?_
    (refine run_loopk (b := c20_rrlrbo) rfl keep20_4 ?_; simp only [sC, Nat.reduceBEq, Nat.reduceAdd])
    refine rS c20_rrlrbol c20_rrlrbor rfl ?_
    refine rS c20_rrlrboll c20_rrlrbolr rfl ?_
    refine run_region rfl ?_
    simp only [sX, simprocAttr, -List.reduceReplicate]
    refine rT c20_rrlrbolrt c20_rrlrbolre rfl rfl ?_
    refine run_skip rfl ?_
    simp only [sP]
    refine rS c20_rrlrborl c20_rrlrborr rfl ?_
    refine run_block (b := c20_rrlrborlb) rfl ?_
    refine rS c20_rrlrborlbl c20_rrlrborlbr rfl ?_
    refine run_region rfl ?_
    simp only [sX, simprocAttr, -List.reduceReplicate, hd1]
    refine rS c20_rrlrborlbrl c20_rrlrborlbrr rfl ?_
    refine rS c20_rrlrborlbrll c20_rrlrborlbrlr rfl ?_
    refine run_regionG rfl c20_rrlrborlbrll_gs ?_
    simp only [sX, simprocAttr, -List.reduceReplicate]
    refine rF c20_rrlrborlbrlrt c20_rrlrborlbrlre rfl rfl ?_
    refine run_skip rfl ?_
    simp only [sP]
    refine rS c20_rrlrborlbrrl c20_rrlrborlbrrr rfl ?_
    refine run_region rfl ?_
    simp only [sX, simprocAttr, -List.reduceReplicate, ho]
    refine call_of hca ?_
    rintro v H2 ⟨rfl, h2⟩
    subst h2
    simp only [sX, simprocAttr, -List.reduceReplicate]
    refine rF c20_rrlrborlbrrrt c20_rrlrborlbrrre rfl rfl ?_
    refine run_skip rfl ?_
    simp only [sP]
    refine run_region rfl ?_
    simp only [sX, simprocAttr, -List.reduceReplicate]
    (refine run_loopk (b := c20_rrlrbo) rfl keep20_4 ?_; simp only [sC, Nat.reduceBEq, Nat.reduceAdd])
    refine rS c20_rrlrbol c20_rrlrbor rfl ?_
    refine rS c20_rrlrboll c20_rrlrbolr rfl ?_
    refine run_region rfl ?_
    simp only [sX, simprocAttr, -List.reduceReplicate]
    refine rF c20_rrlrbolrt c20_rrlrbolre rfl rfl ?_
    refine run_exit rfl ?_
    simp only [sP, if_true]
    refine rS c20_rrrl c20_rrrr rfl ?_
    refine run_region rfl ?_
    simp only [sX, simprocAttr, -List.reduceReplicate]
    refine run_ret rfl ?_
    (simp only [sP]; refine ⟨_, (by rw [resultsA_eq Try.results20]; simp only [sR, List.mapM_cons, List.mapM_nil]; rfl), ?_⟩)
    exact ⟨rfl, trivial⟩
  | first =>
    intro lim H S p n m hI h0 h1
    obtain ⟨rfl, rfl⟩ := hI.inv0
    unfold reV
    have hd : decide (m = 0) = false := by simp only [Tr.ht, htL] at h0; simp; omega
    (refine call_intro fun20 name20 body20 ?_; simp only [Try.ntmps20, List.map_cons, List.map_nil, List.length_cons, List.length_nil, Nat.zero_add, Nat.reduceAdd, Nat.reduceSub, List.replicate_succ, List.replicate_zero, List.cons_append, List.nil_append])
    refine rS c20_l c20_r rfl ?_
    refine run_region rfl ?_
    simp only [sX, simprocAttr, -List.reduceReplicate]
    refine rS c20_rl c20_rr rfl ?_
    refine rS c20_rll c20_rlr rfl ?_
    refine run_region rfl ?_
    simp only [sX, simprocAttr, -List.reduceReplicate, hd]
    refine rF c20_rlrt c20_rlre rfl rfl ?_
    refine run_skip rfl ?_
    simp only [sP]
    refine rS c20_rrl c20_rrr rfl ?_
    refine rS c20_rrll c20_rrlr rfl ?_
    refine run_region rfl ?_
    simp only [sX, simprocAttr, -List.reduceReplicate]
    refine run_block (b := c20_rrlrb) rfl ?_
    (refine run_loopk (b := c20_rrlrbo) rfl keep20_4 ?_; simp only [sC, Nat.reduceBEq, Nat.reduceAdd])
    refine rS c20_rrlrbol c20_rrlrbor rfl ?_
    refine rS c20_rrlrboll c20_rrlrbolr rfl ?_
    refine run_region rfl ?_
    simp only [sX, simprocAttr, -List.reduceReplicate]
    refine rF c20_rrlrbolrt c20_rrlrbolre rfl rfl ?_
    refine run_exit rfl ?_
    simp only [sP, if_true]
    refine rS c20_rrrl c20_rrrr rfl ?_
    refine run_region rfl ?_
    simp only [sX, simprocAttr, -List.reduceReplicate]
    refine run_ret rfl ?_
    (simp only [sP]; refine ⟨_, (by rw [resultsA_eq Try.results20]; simp only [sR, List.mapM_cons, List.mapM_nil]; rfl), ?_⟩)
    exact ⟨rfl, trivial⟩
  | last =>
    intro lim H S p n m hI h0 h1
    obtain ⟨rfl, rfl⟩ := hI.inv0
    unfold reV
    have hd : decide (m = 0) = false := by simp only [Tr.ht, htL] at h0; simp; omega
    (refine call_intro fun20 name20 body20 ?_; simp only [Try.ntmps20, List.map_cons, List.map_nil, List.length_cons, List.length_nil, Nat.zero_add, Nat.reduceAdd, Nat.reduceSub, List.replicate_succ, List.replicate_zero, List.cons_append, List.nil_append])
    refine rS c20_l c20_r rfl ?_
    refine run_region rfl ?_
    simp only [sX, simprocAttr, -List.reduceReplicate]
    refine rS c20_rl c20_rr rfl ?_
    refine rS c20_rll c20_rlr rfl ?_
    refine run_region rfl ?_
    simp only [sX, simprocAttr, -List.reduceReplicate, hd]
    refine rF c20_rlrt c20_rlre rfl rfl ?_
    refine run_skip rfl ?_
    simp only [sP]
    refine rS c20_rrl c20_rrr rfl ?_
    refine rS c20_rrll c20_rrlr rfl ?_
    refine run_region rfl ?_
    simp only [sX, simprocAttr, -List.reduceReplicate]
    refine run_block (b := c20_rrlrb) rfl ?_
    (refine run_loopk (b := c20_rrlrbo) rfl keep20_4 ?_; simp only [sC, Nat.reduceBEq, Nat.reduceAdd])
    refine rS c20_rrlrbol c20_rrlrbor rfl ?_
    refine rS c20_rrlrboll c20_rrlrbolr rfl ?_
    refine run_region rfl ?_
    simp only [sX, simprocAttr, -List.reduceReplicate]
    refine rF c20_rrlrbolrt c20_rrlrbolre rfl rfl ?_
    refine run_exit rfl ?_
    simp only [sP, if_true]
    refine rS c20_rrrl c20_rrrr rfl ?_
    refine run_region rfl ?_
    simp only [sX, simprocAttr, -List.reduceReplicate]
    refine run_ret rfl ?_
    (simp only [sP]; refine ⟨_, (by rw [resultsA_eq Try.results20]; simp only [sR, List.mapM_cons, List.mapM_nil]; rfl), ?_⟩)
    exact ⟨rfl, trivial⟩
theorem setsR : ∀ {T : Tr}, Ok T → ∀ (lim : Nat) (H : Hp) (S : Nat → Prop) (p : Option Addr) (n : Nat), IsRe H S T (reC T.k T.s p n) → T.lv ≤ 400 →
    CallEx X lim 21 [reV T.k T.s p n] H fun v H1 => v = .int .i64 T.lv ∧ H1 = H := by
  intro T hT
  induction hT with
  | empty =>
    intro lim H S p n hI hlv
    obtain ⟨rfl, rfl⟩ := hI.inv0
    unfold reV
    have hv : (Tr.node 0 S4.z []).lv = 1 := rfl
    rw [hv]
    (refine call_intro fun21 name21 body21 ?_; simp only [Try.ntmps21, List.map_cons, List.map_nil, List.length_cons, List.length_nil, Nat.zero_add, Nat.reduceSub, List.replicate_succ, List.replicate_zero, List.cons_append, List.nil_append])
    refine rS c21_l c21_r rfl ?_
    refine run_region rfl ?_
    simp only [sX, simprocAttr, -List.reduceReplicate]
    refine rS c21_rl c21_rr rfl ?_
    refine rS c21_rll c21_rlr rfl ?_
    refine run_region rfl ?_
    simp only [sX, simprocAttr, -List.reduceReplicate]
    refine rT c21_rlrt c21_rlre rfl rfl ?_
    refine rS c21_rlrtl c21_rlrtr rfl ?_
    refine run_region rfl ?_
    simp only [sX, simprocAttr, -List.reduceReplicate]
    refine run_ret rfl ?_
    (simp only [sP]; refine ⟨_, (by rw [resultsA_eq Try.results21]; simp only [sR, List.mapM_cons, List.mapM_nil]; rfl), ?_⟩)
    exact ⟨rfl, trivial⟩
  | set s =>
    intro lim H S p n hI hlv
    obtain ⟨rfl, rfl⟩ := hI.inv0
    unfold reV
    have hv : (Tr.node 1 s []).lv = 1 := rfl
    rw [hv]
    (refine call_intro fun21 name21 body21 ?_; simp only [Try.ntmps21, List.map_cons, List.map_nil, List.length_cons, List.length_nil, Nat.zero_add, Nat.reduceSub, List.replicate_succ, List.replicate_zero, List.cons_append, List.nil_append])
    refine rS c21_l c21_r rfl ?_
    refine run_region rfl ?_
    simp only [sX, simprocAttr, -List.reduceReplicate]
    refine rS c21_rl c21_rr rfl ?_
    refine rS c21_rll c21_rlr rfl ?_
    refine run_region rfl ?_
    simp only [sX, simprocAttr, -List.reduceReplicate]
    refine rT c21_rlrt c21_rlre rfl rfl ?_
    refine rS c21_rlrtl c21_rlrtr rfl ?_
    refine run_region rfl ?_
    simp only [sX, simprocAttr, -List.reduceReplicate]
    refine run_ret rfl ?_
    (simp only [sP]; refine ⟨_, (by rw [resultsA_eq Try.results21]; simp only [sR, List.mapM_cons, List.mapM_nil]; rfl), ?_⟩)
    exact ⟨rfl, trivial⟩
  | @cat a b _ _ iha ihb =>
    intro lim H S p n hI hlv
    obtain ⟨rfl, bl, wr, p1, p2, rfl, _, ho, ha, hb⟩ := hI.inv2
    unfold reC at ho
    simp only [List.cons_append, List.nil_append] at ho
    unfold reV at iha ihb ⊢
    simp only [Tr.lv, lvL] at hlv ⊢
    have hpa := a.lv_pos
    have hpb := b.lv_pos
    have hca := iha lim H S p1 _ ha (by omega)
    have hcb := ihb lim H S p2 _ hb (by omega)
    have hw1 : IntKind.i64.wrap (0 + a.lv) = a.lv := by rw [IntWalk.i64_in _ (by omega)]; omega
    have hw2 : IntKind.i64.wrap (a.lv + b.lv) = a.lv + b.lv := by rw [IntWalk.i64_in _ (by omega)]
    (refine call_intro fun21 name21 body21 ?_; simp only [Try.ntmps21, List.map_cons, List.map_nil, List.length_cons, List.length_nil, Nat.zero_add, Nat.reduceSub, List.replicate_succ, List.replicate_zero, List.cons_append, List.nil_append])
    refine rS c21_l c21_r rfl ?_
    refine run_region rfl ?_
    simp only [sX, simprocAttr, -List.reduceReplicate]
    refine rS c21_rl c21_rr rfl ?_
    refine rS c21_rll c21_rlr rfl ?_
    refine run_region rfl ?_
    simp only [sX, simprocAttr, -List.reduceReplicate]
    refine rF c21_rlrt c21_rlre rfl rfl ?_
    refine run_skip rfl ?_
    simp only [sP]
    refine rS c21_rrl c21_rrr rfl ?_
    refine run_region rfl ?_
    simp only [sX, simprocAttr, -List.reduceReplicate]
    refine rS c21_rrrl c21_rrrr rfl ?_
    refine rS c21_rrrll c21_rrrlr rfl ?_
    refine run_region rfl ?_
    simp only [sX, simprocAttr, -List.reduceReplicate]
    refine run_block (b := c21_rrrlrb) rfl ?_
    (refine run_loopk (b := c21_rrrlrbo) rfl keep21_5 ?_; simp only [sC, Nat.reduceBEq, Nat.reduceAdd])
    refine rS c21_rrrlrbol c21_rrrlrbor rfl ?_
    refine rS c21_rrrlrboll c21_rrrlrbolr rfl ?_
    refine run_region rfl ?_
    simp only [sX, simprocAttr, -List.reduceReplicate]
    refine rT c21_rrrlrbolrt c21_rrrlrbolre rfl rfl ?_
    refine run_skip rfl ?_
    simp only [sP]
    refine rS c21_rrrlrborl c21_rrrlrborr rfl ?_
    refine run_block (b := c21_rrrlrborlb) rfl ?_
    refine run_region rfl ?_
    simp only [sX, simprocAttr, -List.reduceReplicate, ho]
    refine call_of hca ?_
    rintro v H2 ⟨rfl, h2⟩
    subst h2
    simp only [sX, simprocAttr, -List.reduceReplicate, hw1]
    refine run_region rfl ?_
    simp only [sX, simprocAttr, -List.reduceReplicate]
    (refine run_loopk (b := c21_rrrlrbo) rfl keep21_5 ?_; simp only [sC, Nat.reduceBEq, Nat.reduceAdd])
    refine rS c21_rrrlrbol c21_rrrlrbor rfl ?_
    refine rS c21_rrrlrboll c21_rrrlrbolr rfl ?_
    refine run_region rfl ?_
    simp only [sX, simprocAttr, -List.reduceReplicate]
    refine rT c21_rrrlrbolrt c21_rrrlrbolre rfl rfl ?_
    refine run_skip rfl ?_
    simp only [sP]
    refine rS c21_rrrlrborl c21_rrrlrborr rfl ?_
    refine run_block (b := c21_rrrlrborlb) rfl ?_
    refine run_region rfl ?_
    simp only [sX, simprocAttr, -List.reduceReplicate, ho]
    refine call_of hcb ?_
    rintro v H2 ⟨rfl, h2⟩
    subst h2
    simp only [sX, simprocAttr, -List.reduceReplicate, hw2]
    refine run_region rfl ?_
    simp only [sX, simprocAttr, -List.reduceReplicate]
    (refine run_loopk (b := c21_rrrlrbo) rfl keep21_5 ?_; simp only [sC, Nat.reduceBEq, Nat.reduceAdd])
    refine rS c21_rrrlrbol c21_rrrlrbor rfl ?_
    refine rS c21_rrrlrboll c21_rrrlrbolr rfl ?_
    refine run_region rfl ?_
    simp only [sX, simprocAttr, -List.reduceReplicate]
    refine rF c21_rrrlrbolrt c21_rrrlrbolre rfl rfl ?_
    refine run_exit rfl ?_
    simp only [sP, if_true]
    refine rS c21_rrrrl c21_rrrrr rfl ?_
    refine run_region rfl ?_
    simp only [sX, simprocAttr, -List.reduceReplicate]
    refine run_ret rfl ?_
    (simp only [sP]; refine ⟨_, (by rw [resultsA_eq Try.results21]; simp only [sR, List.mapM_cons, List.mapM_nil]; rfl), ?_⟩)
    exact ⟨rfl, trivial⟩
  | @alt a b _ _ iha ihb =>
    intro lim H S p n hI hlv
    obtain ⟨rfl, bl, wr, p1, p2, rfl, _, ho, ha, hb⟩ := hI.inv2
    unfold reC at ho
    simp only [List.cons_append, List.nil_append] at ho
    unfold reV at iha ihb ⊢
    simp only [Tr.lv, lvL] at hlv ⊢
    have hpa := a.lv_pos
    have hpb := b.lv_pos
    have hca := iha lim H S p1 _ ha (by omega)
    have hcb := ihb lim H S p2 _ hb (by omega)
    have hw1 : IntKind.i64.wrap (0 + a.lv) = a.lv := by rw [IntWalk.i64_in _ (by omega)]; omega
    have hw2 : IntKind.i64.wrap (a.lv + b.lv) = a.lv + b.lv := by rw [IntWalk.i64_in _ (by omega)]
    (refine call_intro fun21 name21 body21 ?_; simp only [Try.ntmps21, List.map_cons, List.map_nil, List.length_cons, List.length_nil, Nat.zero_add, Nat.reduceSub, List.replicate_succ, List.replicate_zero, List.cons_append, List.nil_append])
    refine rS c21_l c21_r rfl ?_
    refine run_region rfl ?_
    simp only [sX, simprocAttr, -List.reduceReplicate]
    refine rS c21_rl c21_rr rfl ?_
    refine rS c21_rll c21_rlr rfl ?_
    refine run_region rfl ?_
    simp only [sX, simprocAttr, -List.reduceReplicate]
    refine rF c21_rlrt c21_rlre rfl rfl ?_
    refine run_skip rfl ?_
    simp only [sP]
    refine rS c21_rrl c21_rrr rfl ?_
    refine run_region rfl ?_
    simp only [sX, simprocAttr, -List.reduceReplicate]
    refine rS c21_rrrl c21_rrrr rfl ?_
    refine rS c21_rrrll c21_rrrlr rfl ?_
    refine run_region rfl ?_
    simp only [sX, simprocAttr, -List.reduceReplicate]
    refine run_block (b := c21_rrrlrb) rfl ?_
    (refine run_loopk (b := c21_rrrlrbo) rfl keep21_5 ?_; simp only [sC, Nat.reduceBEq, Nat.reduceAdd])
    refine rS c21_rrrlrbol c21_rrrlrbor rfl ?_
    refine rS c21_rrrlrboll c21_rrrlrbolr rfl ?_
    refine run_region rfl ?_
    simp only [sX, simprocAttr, -List.reduceReplicate]
    refine rT c21_rrrlrbolrt c21_rrrlrbolre rfl rfl ?_
    refine run_skip rfl ?_
    simp only [sP]
    refine rS c21_rrrlrborl c21_rrrlrborr rfl ?_
    refine run_block (b := c21_rrrlrborlb) rfl ?_
    refine run_region rfl ?_
    simp only [sX, simprocAttr, -List.reduceReplicate, ho]
    refine call_of hca ?_
    rintro v H2 ⟨rfl, h2⟩
    subst h2
    simp only [sX, simprocAttr, -List.reduceReplicate, hw1]
    refine run_region rfl ?_
    simp only [sX, simprocAttr, -List.reduceReplicate]
    (refine run_loopk (b := c21_rrrlrbo) rfl keep21_5 ?_; simp only [sC, Nat.reduceBEq, Nat.reduceAdd])
    refine rS c21_rrrlrbol c21_rrrlrbor rfl ?_
    refine rS c21_rrrlrboll c21_rrrlrbolr rfl ?_
    refine run_region rfl ?_
    simp only [sX, simprocAttr, -List.reduceReplicate]
    refine rT c21_rrrlrbolrt c21_rrrlrbolre rfl rfl ?_
    refine run_skip rfl ?_
    simp only [sP]
    refine rS c21_rrrlrborl c21_rrrlrborr rfl ?_
    refine run_block (b := c21_rrrlrborlb) rfl ?_
    refine run_region rfl ?_
    simp only [sX, simprocAttr, -List.reduceReplicate, ho]
    refine call_of hcb ?_
    rintro v H2 ⟨rfl, h2⟩
    subst h2
    simp only [sX, simprocAttr, -List.reduceReplicate, hw2]
    refine run_region rfl ?_
    simp only [sX, simprocAttr, -List.reduceReplicate]
    (refine run_loopk (b := c21_rrrlrbo) rfl keep21_5 ?_; simp only [sC, Nat.reduceBEq, Nat.reduceAdd])
    refine rS c21_rrrlrbol c21_rrrlrbor rfl ?_
    refine rS c21_rrrlrboll c21_rrrlrbolr rfl ?_
    refine run_region rfl ?_
    simp only [sX, simprocAttr, -List.reduceReplicate]
    refine rF c21_rrrlrbolrt c21_rrrlrbolre rfl rfl ?_
    refine run_exit rfl ?_
    simp only [sP, if_true]
    refine rS c21_rrrrl c21_rrrrr rfl ?_
    refine run_region rfl ?_
    simp only [sX, simprocAttr, -List.reduceReplicate]
    refine run_ret rfl ?_
    (simp only [sP]; refine ⟨_, (by rw [resultsA_eq Try.results21]; simp only [sR, List.mapM_cons, List.mapM_nil]; rfl), ?_⟩)
    exact ⟨rfl, trivial⟩
  | @star a _ iha =>
    intro lim H S p n hI hlv
    obtain ⟨rfl, bl, wr, p1, rfl, _, ho, ha⟩ := hI.inv1
    unfold reC at ho
    unfold reV at iha ⊢
    simp only [Tr.lv, lvL] at hlv ⊢
    have hca := iha lim H S p1 _ ha hlv
    have hpa := a.lv_pos
    have hw : ∀ x : Int, 1 ≤ x → x ≤ 400 → IntKind.i64.wrap (0 + x) = x := fun x h1 h2 => by rw [IntWalk.i64_in _ (by omega)]; omega
    have hw1 := hw _ hpa hlv
    (refine call_intro fun21 name21 body21 ?_; simp only [Try.ntmps21, List.map_cons, List.map_nil, List.length_cons, List.length_nil, Nat.zero_add, Nat.reduceSub, List.replicate_succ, List.replicate_zero, List.cons_append, List.nil_append])
    refine rS c21_l c21_r rfl ?_
    refine run_region rfl ?_
    simp only [sX, simprocAttr, -List.reduceReplicate]
    refine rS c21_rl c21_rr rfl ?_
    refine rS c21_rll c21_rlr rfl ?_
    refine run_region rfl ?_
    simp only [sX, simprocAttr, -List.reduceReplicate]
    refine rF c21_rlrt c21_rlre rfl rfl ?_
    refine run_skip rfl ?_
    simp only [sP]
    refine rS c21_rrl c21_rrr rfl ?_
    refine run_region rfl ?_
    simp only [sX, simprocAttr, -List.reduceReplicate]
    refine rS c21_rrrl c21_rrrr rfl ?_
    refine rS c21_rrrll c21_rrrlr rfl ?_
    refine run_region rfl ?_
    simp only [sX, simprocAttr, -List.reduceReplicate]
    refine run_block (b := c21_rrrlrb) rfl ?_
    (refine run_loopk (b := c21_rrrlrbo) rfl keep21_5 ?_; simp only [sC, Nat.reduceBEq, Nat.reduceAdd])
    refine rS c21_rrrlrbol c21_rrrlrbor rfl ?_
    refine rS c21_rrrlrboll c21_rrrlrbolr rfl ?_
    refine run_region rfl ?_
    simp only [sX, simprocAttr, -List.reduceReplicate]
    refine rT c21_rrrlrbolrt c21_rrrlrbolre rfl rfl ?_
    refine run_skip rfl ?_
    simp only [sP]
    refine rS c21_rrrlrborl c21_rrrlrborr rfl ?_
    refine run_block (b := c21_rrrlrborlb) rfl ?_
    refine run_region rfl ?_
    simp only [sX, simprocAttr, -List.reduceReplicate, ho]
    refine call_of hca ?_
    rintro v H2 ⟨rfl, h2⟩
    subst h2
    simp only [sX, simprocAttr, -List.reduceReplicate, hw1]
    refine run_region rfl ?_
    simp only [sX, simprocAttr, -List.reduceReplicate]
    (refine run_loopk (b := c21_rrrlrbo) rfl keep21_5 ?_; simp only [sC, Nat.reduceBEq, Nat.reduceAdd])
    refine rS c21_rrrlrbol c21_rrrlrbor rfl ?_
    refine rS c21_rrrlrboll c21_rrrlrbolr rfl ?_
    refine run_region rfl ?_
    simp only [sX, simprocAttr, -List.reduceReplicate]
    refine rF c21_rrrlrbolrt c21_rrrlrbolre rfl rfl ?_
    refine run_exit rfl ?_
    simp only [sP, if_true]
    refine rS c21_rrrrl c21_rrrrr rfl ?_
    refine run_region rfl ?_
    simp only [sX, simprocAttr, -List.reduceReplicate]
    refine run_ret rfl ?_
    (simp only [sP]; refine ⟨_, (by rw [resultsA_eq Try.results21]; simp only [sR, List.mapM_cons, List.mapM_nil]; rfl), ?_⟩)
    exact ⟨rfl, trivial⟩
  | @plus a _ iha =>
    intro lim H S p n hI hlv
    obtain ⟨rfl, bl, wr, p1, rfl, _, ho, ha⟩ := hI.inv1
    unfold reC at ho
    unfold reV at iha ⊢
    simp only [Tr.lv, lvL] at hlv ⊢
    have hca := iha lim H S p1 _ ha hlv
    have hpa := a.lv_pos
    have hw : ∀ x : Int, 1 ≤ x → x ≤ 400 → IntKind.i64.wrap (0 + x) = x := fun x h1 h2 => by rw [IntWalk.i64_in _ (by omega)]; omega
    have hw1 := hw _ hpa hlv
    (refine call_intro fun21 name21 body21 ?_; simp only [Try.ntmps21, List.map_cons, List.map_nil, List.length_cons, List.length_nil, Nat.zero_add, Nat.reduceSub, List.replicate_succ, List.replicate_zero, List.cons_append, List.nil_append])
    refine rS c21_l c21_r rfl ?_
    refine run_region rfl ?_
    simp only [sX, simprocAttr, -List.reduceReplicate]
    refine rS c21_rl c21_rr rfl ?_
    refine rS c21_rll c21_rlr rfl ?_
    refine run_region rfl ?_
    simp only [sX, simprocAttr, -List.reduceReplicate]
    refine rF c21_rlrt c21_rlre rfl rfl ?_
    refine run_skip rfl ?_
    simp only [sP]
    refine rS c21_rrl c21_rrr rfl ?_
    refine run_region rfl ?_
    simp only [sX, simprocAttr, -List.reduceReplicate]
    refine rS c21_rrrl c21_rrrr rfl ?_
    refine rS c21_rrrll c21_rrrlr rfl ?_
    refine run_region rfl ?_
    simp only [sX, simprocAttr, -List.reduceReplicate]
    refine run_block (b := c21_rrrlrb) rfl ?_
    (refine run_loopk (b := c21_rrrlrbo) rfl keep21_5 ?_; simp only [sC, Nat.reduceBEq, Nat.reduceAdd])
    refine rS c21_rrrlrbol c21_rrrlrbor rfl ?_
    refine rS c21_rrrlrboll c21_rrrlrbolr rfl ?_
    refine run_region rfl ?_
    simp only [sX, simprocAttr, -List.reduceReplicate]
    refine rT c21_rrrlrbolrt c21_rrrlrbolre rfl rfl ?_
    refine run_skip rfl ?_
    simp only [sP]
    refine rS c21_rrrlrborl c21_rrrlrborr rfl ?_
    refine run_block (b := c21_rrrlrborlb) rfl ?_
    refine run_region rfl ?_
    simp only [sX, simprocAttr, -List.reduceReplicate, ho]
    refine call_of hca ?_
    rintro v H2 ⟨rfl, h2⟩
    subst h2
    simp only [sX, simprocAttr, -List.reduceReplicate, hw1]
    refine run_region rfl ?_
    simp only [sX, simprocAttr, -List.reduceReplicate]
    (refine run_loopk (b := c21_rrrlrbo) rfl keep21_5 ?_; simp only [sC, Nat.reduceBEq, Nat.reduceAdd])
    refine rS c21_rrrlrbol c21_rrrlrbor rfl ?_
    refine rS c21_rrrlrboll c21_rrrlrbolr rfl ?_
    refine run_region rfl ?_
    simp only [sX, simprocAttr, -List.reduceReplicate]
    refine rF c21_rrrlrbolrt c21_rrrlrbolre rfl rfl ?_
    refine run_exit rfl ?_
    simp only [sP, if_true]
    refine rS c21_rrrrl c21_rrrrr rfl ?_
    refine run_region rfl ?_
    simp only [sX, simprocAttr, -List.reduceReplicate]
    refine run_ret rfl ?_
    (simp only [sP]; refine ⟨_, (by rw [resultsA_eq Try.results21]; simp only [sR, List.mapM_cons, List.mapM_nil]; rfl), ?_⟩)
    exact ⟨rfl, trivial⟩
  | @opt a _ iha =>
    intro lim H S p n hI hlv
    obtain ⟨rfl, bl, wr, p1, rfl, _, ho, ha⟩ := hI.inv1
    unfold reC at ho
    unfold reV at iha ⊢
    simp only [Tr.lv, lvL] at hlv ⊢
    have hca := iha lim H S p1 _ ha hlv
    have hpa := a.lv_pos
    have hw : ∀ x : Int, 1 ≤ x → x ≤ 400 → IntKind.i64.wrap (0 + x) = x := fun x h1 h2 => by rw [IntWalk.i64_in _ (by omega)]; omega
    have hw1 := hw _ hpa hlv
    (refine call_intro fun21 name21 body21 ?_; simp only [Try.ntmps21, List.map_cons, List.map_nil, List.length_cons, List.length_nil, Nat.zero_add, Nat.reduceSub, List.replicate_succ, List.replicate_zero, List.cons_append, List.nil_append])
    refine rS c21_l c21_r rfl ?_
    refine run_region rfl ?_
    simp only [sX, simprocAttr, -List.reduceReplicate]
    refine rS c21_rl c21_rr rfl ?_
    refine rS c21_rll c21_rlr rfl ?_
    refine run_region rfl ?_
    simp only [sX, simprocAttr, -List.reduceReplicate]
    refine rF c21_rlrt c21_rlre rfl rfl ?_
    refine run_skip rfl ?_
    simp only [sP]
    refine rS c21_rrl c21_rrr rfl ?_
    refine run_region rfl ?_
    simp only [sX, simprocAttr, -List.reduceReplicate]
    refine rS c21_rrrl c21_rrrr rfl ?_
    refine rS c21_rrrll c21_rrrlr rfl ?_
    refine run_region rfl ?_
    simp only [sX, simprocAttr, -List.reduceReplicate]
    refine run_block (b := c21_rrrlrb) rfl ?_
    (refine run_loopk (b := c21_rrrlrbo) rfl keep21_5 ?_; simp only [sC, Nat.reduceBEq, Nat.reduceAdd])
    refine rS c21_rrrlrbol c21_rrrlrbor rfl ?_
    refine rS c21_rrrlrboll c21_rrrlrbolr rfl ?_
    refine run_region rfl ?_
    simp only [sX, simprocAttr, -List.reduceReplicate]
    refine rT c21_rrrlrbolrt c21_rrrlrbolre rfl rfl ?_
    refine run_skip rfl ?_
    simp only [sP]
    refine rS c21_rrrlrborl c21_rrrlrborr rfl ?_
    refine run_block (b := c21_rrrlrborlb) rfl ?_
    refine run_region rfl ?_
    simp only [sX, simprocAttr, -List.reduceReplicate, ho]
    refine call_of hca ?_
    rintro v H2 ⟨rfl, h2⟩
    subst h2
    simp only [sX, simprocAttr, -List.reduceReplicate, hw1]
    refine run_region rfl ?_
    simp only [sX, simprocAttr, -List.reduceReplicate]
    (refine run_loopk (b := c21_rrrlrbo) rfl keep21_5 ?_; simp only [sC, Nat.reduceBEq, Nat.reduceAdd])
    refine rS c21_rrrlrbol c21_rrrlrbor rfl ?_
    refine rS c21_rrrlrboll c21_rrrlrbolr rfl ?_
    refine run_region rfl ?_
    simp only [sX, simprocAttr, -List.reduceReplicate]
    refine rF c21_rrrlrbolrt c21_rrrlrbolre rfl rfl ?_
    refine run_exit rfl ?_
    simp only [sP, if_true]
    refine rS c21_rrrrl c21_rrrrr rfl ?_
    refine run_region rfl ?_
    simp only [sX, simprocAttr, -List.reduceReplicate]
    refine run_ret rfl ?_
    (simp only [sP]; refine ⟨_, (by rw [resultsA_eq Try.results21]; simp only [sR, List.mapM_cons, List.mapM_nil]; rfl), ?_⟩)
    exact ⟨rfl, trivial⟩
  | first =>
    intro lim H S p n hI hlv
    obtain ⟨rfl, rfl⟩ := hI.inv0
    unfold reV
    have hv : (Tr.node 7 S4.z []).lv = 1 := rfl
    rw [hv]
    (refine call_intro fun21 name21 body21 ?_; simp only [Try.ntmps21, List.map_cons, List.map_nil, List.length_cons, List.length_nil, Nat.zero_add, Nat.reduceSub, List.replicate_succ, List.replicate_zero, List.cons_append, List.nil_append])
    refine rS c21_l c21_r rfl ?_
    refine run_region rfl ?_
    simp only [sX, simprocAttr, -List.reduceReplicate]
    refine rS c21_rl c21_rr rfl ?_
    refine rS c21_rll c21_rlr rfl ?_
    refine run_region rfl ?_
    simp only [sX, simprocAttr, -List.reduceReplicate]
    refine rT c21_rlrt c21_rlre rfl rfl ?_
    refine rS c21_rlrtl c21_rlrtr rfl ?_
    refine run_region rfl ?_
    simp only [sX, simprocAttr, -List.reduceReplicate]
    refine run_ret rfl ?_
    (simp only [sP]; refine ⟨_, (by rw [resultsA_eq Try.results21]; simp only [sR, List.mapM_cons, List.mapM_nil]; rfl), ?_⟩)
    exact ⟨rfl, trivial⟩
  | last =>
    intro lim H S p n hI hlv
    obtain ⟨rfl, rfl⟩ := hI.inv0
    unfold reV
    have hv : (Tr.node 8 S4.z []).lv = 1 := rfl
    rw [hv]
    (refine call_intro fun21 name21 body21 ?_; simp only [Try.ntmps21, List.map_cons, List.map_nil, List.length_cons, List.length_nil, Nat.zero_add, Nat.reduceSub, List.replicate_succ, List.replicate_zero, List.cons_append, List.nil_append])
    refine rS c21_l c21_r rfl ?_
    refine run_region rfl ?_
    simp only [sX, simprocAttr, -List.reduceReplicate]
    refine rS c21_rl c21_rr rfl ?_
    refine rS c21_rll c21_rlr rfl ?_
    refine run_region rfl ?_
    simp only [sX, simprocAttr, -List.reduceReplicate]
    refine rT c21_rlrt c21_rlre rfl rfl ?_
    refine rS c21_rlrtl c21_rlrtr rfl ?_
    refine run_region rfl ?_
    simp only [sX, simprocAttr, -List.reduceReplicate]
    refine run_ret rfl ?_
    (simp only [sP]; refine ⟨_, (by rw [resultsA_eq Try.results21]; simp only [sR, List.mapM_cons, List.mapM_nil]; rfl), ?_⟩)
    exact ⟨rfl, trivial⟩
theorem rightE (lim : Nat) (H : Hp) (S : Nat → Prop) (T : Tr) (p : Option Addr) (n : Nat) (hI : IsRe H S T (reC T.k T.s p n)) (hh : T.ht ≤ 40) (hl : T.lv ≤ 400) : CallEx X lim 16 [reV T.k T.s p n] H fun v H1 => v = .bool T.shp ∧ H1 = H := by
  have hc := shE 40 T hh lim H S p n 40 hI (by omega) (by omega) hl
  unfold reV at hc ⊢
  (refine call_intro fun16 name16 body16 ?_; simp only [Try.ntmps16, List.map_cons, List.map_nil, List.length_cons, List.length_nil, Nat.zero_add, Nat.reduceSub, List.replicate_succ, List.replicate_zero, List.cons_append, List.nil_append])
  refine rS c16_l c16_r rfl ?_
  refine run_region rfl ?_
  simp only [sX, simprocAttr, -List.reduceReplicate]
  refine rS c16_rl c16_rr rfl ?_
  refine run_region rfl ?_
  simp only [sX, simprocAttr, -List.reduceReplicate]
  refine call_of hc ?_
  rintro v H2 ⟨rfl, h2⟩
  subst h2
  unfold shV
  simp only [sX, simprocAttr, -List.reduceReplicate]
  refine rS c16_rrl c16_rrr rfl ?_
  refine run_region rfl ?_
  simp only [sX, simprocAttr, -List.reduceReplicate]
  refine run_ret rfl ?_
  (simp only [sP]; refine ⟨_, (by rw [resultsA_eq Try.results16]; simp only [sR, List.mapM_cons, List.mapM_nil]; rfl), ?_⟩)
  exact ⟨rfl, trivial⟩

theorem rightR (lim : Nat) (H : Hp) (S : Nat → Prop) (T : Tr) (p : Option Addr) (n : Nat) (hI : IsRe H S T (reC T.k T.s p n)) (hh : T.ht ≤ 40) (hl : T.lv ≤ 400) : CallEx X lim 8 [reV T.k T.s p n] H fun v H1 => v = .bool T.shp ∧ H1 = H := by
  have hc := shR 40 T hh lim H S p n hI
  cases hs : T.shp with
  | true =>
    have ho := ok_of_shp 40 T hh hs
    rw [hs] at hc
    have hc2 := deepR ho lim H S p n 40 hI (by omega) (by omega)
    have hc3 := setsR ho lim H S p n hI hl
    have hl' : decide (T.lv ≤ 400) = true := by simp [hl]
    unfold reV at hc hc2 hc3 ⊢
    (refine call_intro fun8 name8 body8 ?_; simp only [Try.ntmps8, List.map_cons, List.map_nil, List.length_cons, List.length_nil, Nat.zero_add, Nat.reduceSub, List.replicate_succ, List.replicate_zero, List.cons_append, List.nil_append])
    refine rS c8_l c8_r rfl ?_
    refine run_region rfl ?_
    simp only [sX, simprocAttr, -List.reduceReplicate]
    refine rS c8_rl c8_rr rfl ?_
    refine run_regionG rfl c8_rl_gs ?_
    simp only [sX, simprocAttr, -List.reduceReplicate]
    refine call_of hc ?_
    rintro v H2 ⟨rfl, h2⟩
    subst h2
    simp only [sX, simprocAttr, -List.reduceReplicate]
    refine call_of hc2 ?_
    rintro v H2 ⟨rfl, h2⟩
    subst h2
    simp only [sX, simprocAttr, -List.reduceReplicate]
    refine call_of hc3 ?_
    rintro v H2 ⟨rfl, h2⟩
    subst h2
    simp only [sX, simprocAttr, -List.reduceReplicate, hl']
    refine run_ret rfl ?_
    (simp only [sP]; refine ⟨_, (by rw [resultsA_eq Try.results8]; simp only [sR, List.mapM_cons, List.mapM_nil]; rfl), ?_⟩)
    exact ⟨rfl, trivial⟩
  | false =>
    rw [hs] at hc
    unfold reV at hc ⊢
    (refine call_intro fun8 name8 body8 ?_; simp only [Try.ntmps8, List.map_cons, List.map_nil, List.length_cons, List.length_nil, Nat.zero_add, Nat.reduceSub, List.replicate_succ, List.replicate_zero, List.cons_append, List.nil_append])
    refine rS c8_l c8_r rfl ?_
    refine run_region rfl ?_
    simp only [sX, simprocAttr, -List.reduceReplicate]
    refine rS c8_rl c8_rr rfl ?_
    refine run_regionG rfl c8_rl_gs ?_
    simp only [sX, simprocAttr, -List.reduceReplicate]
    refine call_of hc ?_
    rintro v H2 ⟨rfl, h2⟩
    subst h2
    simp only [sX, simprocAttr, -List.reduceReplicate]
    refine run_ret rfl ?_
    (simp only [sP]; refine ⟨_, (by rw [resultsA_eq Try.results8]; simp only [sR, List.mapM_cons, List.mapM_nil]; rfl), ?_⟩)
    exact ⟨rfl, trivial⟩
end Go.Proofs.Ytmgofjgfmcmceaa
end
section
namespace Go.Proofs.Ytmgofjgfmcmceaa
open Go.RowKit
set_option maxRecDepth 4000
def sr (x : Int) (k : Nat) : Int := x.fdiv (2 ^ (min (k : Int).toNat IntKind.u64.bits))
def q1 (x : Int) : Int := IntKind.u64.wrap (ibit .and .u64 (sr x 1) 6148914691236517205 + ibit .and .u64 x 6148914691236517205)
def q2 (x : Int) : Int := IntKind.u64.wrap (ibit .and .u64 (sr x 2) 3689348814741910323 + ibit .and .u64 x 3689348814741910323)
def q3 (x : Int) : Int := ibit .and .u64 (IntKind.u64.wrap (sr x 4 + x)) 1085102592571150095
def q4 (x : Int) : Int := IntKind.u64.wrap (x + sr x 8)
def q5 (x : Int) : Int := IntKind.u64.wrap (x + sr x 16)
def q6 (x : Int) : Int := IntKind.u64.wrap (x + sr x 32)
def pop (x : Int) : Int := ibit .and .i64 (IntKind.i64.wrap (q6 (q5 (q4 (q3 (q2 (q1 x))))))) 127
theorem pop_eq (lim : Nat) (H : Hp) (x : Int) : execCall X 60 lim 41 [.int .u64 x] H = some (.int .i64 (pop x), H) := by kernel_rfl
theorem count_eq (lim : Nat) (H : Hp) (a b c d : Int) : execCall X 60 lim 36 [.agg #[.int .u64 a, .int .u64 b, .int .u64 c, .int .u64 d]] H = some (.int .i64 (IntKind.i64.wrap (IntKind.i64.wrap (IntKind.i64.wrap (IntKind.i64.wrap (0 + pop a) + pop b) + pop c) + pop d)), H) := by kernel_rfl
end Go.Proofs.Ytmgofjgfmcmceaa
end
section
namespace Go.Proofs.Ytmgofjgfmcmceaa
open Go.RowKit
set_option maxRecDepth 4000
set_option maxHeartbeats 1000000
section
def isSl : Option Value → Bool
  | some (.slice _ _ _) => true
  | _ => false
/-- Bytes as a text. -/
def strO (H : Hp) : Option Value → Option Value
  | some (.slice a n c) => match srcCells H 1 (.slice a n c) with
    | some (_, cs) => (cs.mapM byteOf?).map fun ns => .string ⟨(ns.map fun n => UInt8.ofNat n.toNat).toArray⟩
    | none => none
  | _ => none
theorem cv_bytes {f : FuncId} {lim : Nat} {call : CallF} {t : List TV} {H : Hp} {dst : Option Tmp} {ty : TypeId} {pos : String} {af : Array Edge} {gu : Option (Nat × Bool)} {x : Operand} (h : isSl (evv X t x) = true) :
    stepOp X f lim call t H ⟨dst, .convert 40 9 x, ty, pos, af, gu⟩ = (strO H (evv X t x)).map fun v => (.val v, t, H) := by
  simp only [stepOp]
  generalize evv X t x = y at h ⊢
  cases y with
  | none => cases h
  | some v =>
    cases v <;> first | cases h | skip
    rename_i a n c
    simp only [und40, und9, und5, sz5, strO]
    cases srcCells H 1 (.slice a n c) with
    | none => rfl
    | some q =>
      obtain ⟨m, cs⟩ := q
      simp only
      cases cs.mapM byteOf? <;> rfl
end
def bs (l : List UInt8) : ByteArray := ⟨l.toArray⟩
theorem bs_app (a b : List UInt8) : bs a ++ bs b = bs (a ++ b) := by
  apply ByteArray.ext
  simp [bs, ByteArray.data_append]
theorem bs_size (a : List UInt8) : (bs a).size = a.length := by
  show a.toArray.size = a.length
  simp
/-- Nothing that was there is changed. -/
def Gr (H H1 : Hp) : Prop := H.length ≤ H1.length ∧ ∀ b, b < H.length → getO H1 b = getO H b
theorem Gr.refl (H : Hp) : Gr H H := ⟨Nat.le_refl _, fun _ _ => rfl⟩
theorem Gr.trans {H H1 H2 : Hp} (h : Gr H H1) (h' : Gr H1 H2) : Gr H H2 := ⟨Nat.le_trans h.1 h'.1, fun b hb => by rw [h'.2 b (Nat.lt_of_lt_of_le hb h.1), h.2 b hb]⟩
theorem Gr.snoc (H : Hp) (x : Option AObj) : Gr H (H ++ [x]) := ⟨by rw [len_snoc]; omega, fun b hb => getO_snoc hb⟩
theorem IsRe.gr {H H1 : Hp} {S : Nat → Prop} {r : Tr} {cs : List Value} (h : IsRe H S r cs) (hg : Gr H H1) : IsRe H1 S r cs := h.mono2 (fun _ h => h) fun b _ hb => hg.2 b hb

theorem and7_all : (List.range 256).all (fun y => decide (ibit .and .u8 (y : Int) 7 = ((y % 8 : Nat) : Int))) = true := by kernel_rfl
theorem and7 (y : Nat) (hy : y < 256) : ibit .and .u8 (y : Int) 7 = ((y % 8 : Nat) : Int) := by
  have := List.all_eq_true.mp and7_all y (by simpa using hy)
  exact of_decide_eq_true this
theorem oct_ok (lim : Nat) (H : Hp) (x : Nat) (hx : x < 256) : CallEx X lim 38 [.int .u8 x] H fun v H1 => v = .string (bs (octL x)) ∧ Gr H H1 := by
  have e6 : ∀ a b, binR X.P .shr 5 a b (.int .u8 (x : Int)) (.int .u64 6) = some (.int .u8 ((x / 64 : Nat) : Int)) := fun a b => by
    rw [bin_shr (by decide)]
    have : (2 : Int) ^ (min (6 : Int).toNat IntKind.u8.bits) = 64 := by decide
    rw [this, Int.fdiv_eq_ediv_of_nonneg _ (by decide)]; rfl
  have e3 : ∀ a b, binR X.P .shr 5 a b (.int .u8 (x : Int)) (.int .u64 3) = some (.int .u8 ((x / 8 : Nat) : Int)) := fun a b => by
    rw [bin_shr (by decide)]
    have : (2 : Int) ^ (min (3 : Int).toNat IntKind.u8.bits) = 8 := by decide
    rw [this, Int.fdiv_eq_ediv_of_nonneg _ (by decide)]; rfl
  have a1 := and7 (x / 8) (by omega)
  have a2 := and7 x hx
  have w1 : IntKind.u8.wrap (48 + ((x / 64 : Nat) : Int)) = ((48 + x / 64 : Nat) : Int) := by rw [IntWalk.u8_in _ (by omega)]; omega
  have w2 : IntKind.u8.wrap (48 + ((x / 8 % 8 : Nat) : Int)) = ((48 + x / 8 % 8 : Nat) : Int) := by rw [IntWalk.u8_in _ (by omega)]; omega
  have w3 : IntKind.u8.wrap (48 + ((x % 8 : Nat) : Int)) = ((48 + x % 8 : Nat) : Int) := by rw [IntWalk.u8_in _ (by omega)]; omega
  (refine call_intro fun38 name38 body38 ?_; simp only [Try.ntmps38, List.map_cons, List.map_nil, List.length_cons, List.length_nil, Nat.zero_add, Nat.reduceSub, List.replicate_succ, List.replicate_zero, List.cons_append, List.nil_append])
  refine rS c38_l c38_r rfl ?_
  refine run_region rfl ?_
  simp only [sX, simprocAttr, -List.reduceReplicate]
  refine rS c38_rl c38_rr rfl ?_
  refine run_region rfl ?_
  simp only [sX, simprocAttr, -List.reduceReplicate, cv_bytes, isSl, strO, e6, e3, a1, a2, w1, w2, w3, srcCells, byteOf?, cvI, cvG]
  refine run_ret rfl ?_
  (simp only [sP]; refine ⟨_, (by rw [resultsA_eq Try.results38]; simp only [sR, List.mapM_cons, List.mapM_nil]; rfl), ?_⟩)
  exact ⟨rfl, Gr.snoc _ _⟩
end Go.Proofs.Ytmgofjgfmcmceaa
end
section
namespace Go.Proofs.Ytmgofjgfmcmceaa
open Go.RowKit
set_option maxRecDepth 4000
set_option maxHeartbeats 1000000

theorem land_split (b m r M : Nat) (hb : b < 256) (hm : m < 256) : (b + 256 * r) &&& (m + 256 * M) = (b &&& m) + 256 * (r &&& M) := by
  have h1 : ((b + 256 * r) &&& (m + 256 * M)) % 2 ^ 8 = b &&& m := by
    rw [Nat.and_mod_two_pow]
    have e1 : (b + 256 * r) % 2 ^ 8 = b := by omega
    have e2 : (m + 256 * M) % 2 ^ 8 = m := by omega
    rw [e1, e2]
  have h2 : ((b + 256 * r) &&& (m + 256 * M)) / 2 ^ 8 = r &&& M := by
    rw [Nat.and_div_two_pow]
    have e1 : (b + 256 * r) / 2 ^ 8 = r := by omega
    have e2 : (m + 256 * M) / 2 ^ 8 = M := by omega
    rw [e1, e2]
  omega

def val : List Nat → Nat
  | [] => 0
  | b :: l => b + 256 * val l
def h1 (b : Nat) : Nat := (b / 2 &&& 85) + (b &&& 85)
def h2 (b : Nat) : Nat := (b / 4 &&& 51) + (b &&& 51)
def h3 (b : Nat) : Nat := (b / 16 + b) &&& 15
def pc (b : Nat) : Nat := h3 (h2 (h1 b))
theorem tab1 : (List.range 256).all (fun b => (List.range 2).all fun c => decide (((b / 2 + 128 * c) &&& 85) = (b / 2 &&& 85) ∧ h1 b < 256)) = true := by kernel_rfl
theorem tab2 : (List.range 256).all (fun b => (List.range 4).all fun c => decide (((b / 4 + 64 * c) &&& 51) = (b / 4 &&& 51) ∧ h2 b < 256)) = true := by kernel_rfl
theorem tab3 : (List.range 256).all (fun b0 => (List.range 5).all fun c => decide (((h2 (h1 b0) / 16 + 16 * c + h2 (h1 b0)) &&& 15) = h3 (h2 (h1 b0)) ∧ h2 (h1 b0) / 16 + 16 * c + h2 (h1 b0) < 256 ∧ h2 (h1 b0) % 16 ≤ 4)) = true := by kernel_rfl
theorem tab4 : (List.range 256).all (fun b => decide (pc b ≤ 8 ∧ (pc b = 0 → b = 0) ∧ (pc b = 8 → b = 255))) = true := by kernel_rfl
theorem tab5 : (List.range 256).all (fun b => decide (h2 (h1 b) < 69)) = true := by kernel_rfl
theorem tab1' {b c : Nat} (hb : b < 256) (hc : c < 2) : ((b / 2 + 128 * c) &&& 85) = (b / 2 &&& 85) ∧ h1 b < 256 :=
  of_decide_eq_true (List.all_eq_true.mp (List.all_eq_true.mp tab1 b (by simpa using hb)) c (by simpa using hc))
theorem tab2' {b c : Nat} (hb : b < 256) (hc : c < 4) : ((b / 4 + 64 * c) &&& 51) = (b / 4 &&& 51) ∧ h2 b < 256 :=
  of_decide_eq_true (List.all_eq_true.mp (List.all_eq_true.mp tab2 b (by simpa using hb)) c (by simpa using hc))
theorem tab3' {b c : Nat} (hb : b < 256) (hc : c < 5) : ((h2 (h1 b) / 16 + 16 * c + h2 (h1 b)) &&& 15) = h3 (h2 (h1 b)) ∧ h2 (h1 b) / 16 + 16 * c + h2 (h1 b) < 256 ∧ h2 (h1 b) % 16 ≤ 4 :=
  of_decide_eq_true (List.all_eq_true.mp (List.all_eq_true.mp tab3 b (by simpa using hb)) c (by simpa using hc))
theorem tab4' {b : Nat} (hb : b < 256) : pc b ≤ 8 ∧ (pc b = 0 → b = 0) ∧ (pc b = 8 → b = 255) :=
  of_decide_eq_true (List.all_eq_true.mp tab4 b (by simpa using hb))

def mk (m : Nat) (l : List Nat) : Nat := val (l.map fun _ => m)
theorem lane1 : ∀ l : List Nat, (∀ b ∈ l, b < 256) → (val l / 2 &&& mk 85 l) + (val l &&& mk 85 l) = val (l.map h1)
  | [], _ => rfl
  | b :: l, h => by
    have ih := lane1 l fun y hy => h y (by simp [hy])
    have hb : b < 256 := h b (by simp)
    have t := tab1' (c := val l % 2) hb (by omega)
    simp only [mk, List.map_cons, val] at ih ⊢
    have e : (b + 256 * val l) / 2 = (b / 2 + 128 * (val l % 2)) + 256 * (val l / 2) := by omega
    rw [e, land_split _ 85 _ _ (by omega) (by decide), land_split b 85 _ _ hb (by decide), t.1, ← ih]
    simp only [h1]; omega
theorem lane2 : ∀ l : List Nat, (∀ b ∈ l, b < 256) → (val l / 4 &&& mk 51 l) + (val l &&& mk 51 l) = val (l.map h2)
  | [], _ => rfl
  | b :: l, h => by
    have ih := lane2 l fun y hy => h y (by simp [hy])
    have hb : b < 256 := h b (by simp)
    have t := tab2' (c := val l % 4) hb (by omega)
    simp only [mk, List.map_cons, val] at ih ⊢
    have e : (b + 256 * val l) / 4 = (b / 4 + 64 * (val l % 4)) + 256 * (val l / 4) := by omega
    rw [e, land_split _ 51 _ _ (by omega) (by decide), land_split b 51 _ _ hb (by decide), t.1, ← ih]
    simp only [h2]; omega
theorem lane3 : ∀ l : List Nat, (∀ b ∈ l, b < 256) → (val (l.map fun b => h2 (h1 b)) / 16 + val (l.map fun b => h2 (h1 b)) &&& mk 15 l) = val (l.map pc) ∧ val (l.map fun b => h2 (h1 b)) % 16 ≤ 4
  | [], _ => ⟨rfl, by decide⟩
  | b :: l, h => by
    obtain ⟨ih, ihm⟩ := lane3 l fun y hy => h y (by simp [hy])
    have hb : b < 256 := h b (by simp)
    have t := tab3' (c := val (l.map fun b => h2 (h1 b)) % 16) hb (by omega)
    simp only [mk, List.map_cons, val] at ih ⊢
    generalize hB : h2 (h1 b) = B at t ⊢
    generalize hV : val (l.map fun b => h2 (h1 b)) = V at t ih ihm ⊢
    refine ⟨?_, by omega⟩
    have e : (B + 256 * V) / 16 + (B + 256 * V) = (B / 16 + 16 * (V % 16) + B) + 256 * (V / 16 + V) := by omega
    rw [e, land_split _ 15 _ _ t.2.1 (by decide), t.1, ih, ← hB]; rfl

theorem ibit_nat (a b : Nat) (ha : a < 18446744073709551616) (hb : b < 18446744073709551616) : ibit .and .u64 (a : Int) (b : Int) = ((a &&& b : Nat) : Int) := by
  have := ibit_and (BitVec.ofNat 64 a) (BitVec.ofNat 64 b)
  simp only [BitVec.toNat_ofNat, Nat.mod_eq_of_lt ha, Nat.mod_eq_of_lt hb, BitVec.toNat_and] at this
  exact this
theorem sr_nat (a k : Nat) (hk : k ≤ 64) : sr (a : Int) k = ((a / 2 ^ k : Nat) : Int) := by
  unfold sr
  have : min (k : Int).toNat IntKind.u64.bits = k := by
    have : IntKind.u64.bits = 64 := rfl
    rw [this]; omega
  rw [this, Int.fdiv_eq_ediv_of_nonneg _ (Int.le_of_lt (Int.pow_pos (by decide)))]
  norm_cast
theorem wrap_nat (a : Nat) (h : a < 18446744073709551616) : IntKind.u64.wrap (a : Int) = (a : Int) := IntWalk.u64_in _ (by omega)

theorem val_mono {m : Nat} : ∀ l : List Nat, (∀ b ∈ l, b ≤ m) → val l ≤ mk m l
  | [], _ => Nat.le_refl _
  | b :: l, h => by
    have := val_mono l fun y hy => h y (by simp [hy])
    have := h b (by simp)
    simp only [mk, List.map_cons, val] at *
    omega
theorem mk_map (m : Nat) (f : Nat → Nat) (l : List Nat) : mk m (l.map f) = mk m l := by unfold mk; rw [List.map_map]; rfl
def vadd : List Nat → List Nat → List Nat
  | [], m => m
  | l, [] => l
  | a :: l, b :: m => (a + b) :: vadd l m
theorem val_vadd : ∀ l m : List Nat, val (vadd l m) = val l + val m
  | [], m => by simp [vadd, val]
  | a :: l, [] => by simp [vadd, val]
  | a :: l, b :: m => by
    have := val_vadd l m
    simp only [vadd, val, this]; omega
theorem val_drop1 {b : Nat} {l : List Nat} (hb : b < 256) : val (b :: l) / 256 = val l := by
  simp only [val]; omega
theorem val_lt (l : List Nat) (h : ∀ b ∈ l, b < 256) (hl : l.length = 8) : val l < 18446744073709551616 := by
  have := val_mono (m := 255) l fun b hb => by have := h b hb; omega
  match l, hl with
  | [b0, b1, b2, b3, b4, b5, b6, b7], _ =>
    have m255 : mk 255 [b0, b1, b2, b3, b4, b5, b6, b7] = 18446744073709551615 := by simp [mk, val]
    rw [m255] at this; omega
theorem pop_bytes (b0 b1 b2 b3 b4 b5 b6 b7 : Nat) (h0 : b0 < 256) (h1' : b1 < 256) (h2' : b2 < 256) (h3' : b3 < 256) (h4 : b4 < 256) (h5 : b5 < 256) (h6 : b6 < 256) (h7 : b7 < 256) :
    pop ((val [b0, b1, b2, b3, b4, b5, b6, b7] : Nat) : Int) = ((pc b0 + pc b1 + pc b2 + pc b3 + pc b4 + pc b5 + pc b6 + pc b7 : Nat) : Int) := by
  have hl : ∀ b ∈ [b0, b1, b2, b3, b4, b5, b6, b7], b < 256 := by
    intro b hb
    simp only [List.mem_cons, List.not_mem_nil, or_false] at hb
    rcases hb with rfl | rfl | rfl | rfl | rfl | rfl | rfl | rfl <;> assumption
  generalize hL : [b0, b1, b2, b3, b4, b5, b6, b7] = L at hl
  have m255 : mk 255 L = 18446744073709551615 := by subst hL; simp [mk, val]
  have m68 : mk 68 L = 4919131752989213764 := by subst hL; simp [mk, val]
  have hlt : ∀ f : Nat → Nat, (∀ b, b < 256 → f b < 256) → val (L.map f) < 18446744073709551616 := by
    intro f hf
    have := val_mono (m := 255) (L.map f) fun b hb => by
      obtain ⟨c, hc, rfl⟩ := List.mem_map.mp hb
      have := hf c (hl c hc); omega
    rw [mk_map, m255] at this
    omega
  have hv : val L < 18446744073709551616 := by have := hlt id fun _ h => h; simpa using this
  have m85 : mk 85 L = 6148914691236517205 := by subst hL; simp [mk, val]
  have m51 : mk 51 L = 3689348814741910323 := by subst hL; simp [mk, val]
  have m15 : mk 15 L = 1085102592571150095 := by subst hL; simp [mk, val]
  have l1 := lane1 L hl
  have hl1 : ∀ b ∈ L.map h1, b < 256 := by
    intro b hb
    obtain ⟨c, hc, rfl⟩ := List.mem_map.mp hb
    exact (tab1' (c := 0) (hl c hc) (by decide)).2
  have l2 := lane2 (L.map h1) hl1
  have m51' : mk 51 (L.map h1) = 3689348814741910323 := by rw [← m51, mk_map]
  obtain ⟨l3, _⟩ := lane3 L hl
  rw [m85] at l1; rw [m51'] at l2; rw [m15] at l3
  rw [List.map_map] at l2
  have hv1 : val (L.map h1) < 18446744073709551616 := hlt h1 fun b hb => (tab1' (c := 0) hb (by decide)).2
  have hv2 : val (L.map fun b => h2 (h1 b)) < 18446744073709551616 := hlt _ fun b hb => (tab2' (c := 0) ((tab1' (c := 0) hb (by decide)).2) (by decide)).2
  have hv3 : val (L.map fun b => h2 (h1 b)) / 16 + val (L.map fun b => h2 (h1 b)) < 18446744073709551616 := by
    have : ∀ b, b < 256 → h2 (h1 b) < 69 := by
      intro b hb
      exact of_decide_eq_true (List.all_eq_true.mp tab5 b (by simpa using hb))
    have := val_mono (m := 68) (L.map fun b => h2 (h1 b)) fun b hb => by
      obtain ⟨c, hc, rfl⟩ := List.mem_map.mp hb
      have := this c (hl c hc); omega
    rw [mk_map, m68] at this
    omega
  have e1 : q1 ((val L : Nat) : Int) = ((val (L.map h1) : Nat) : Int) := by
    unfold q1
    rw [sr_nat _ 1 (by decide)]
    have a1 := ibit_nat (val L / 2 ^ 1) 6148914691236517205 (by omega) (by decide)
    have a2 := ibit_nat (val L) 6148914691236517205 hv (by decide)
    rw [show (6148914691236517205 : Int) = ((6148914691236517205 : Nat) : Int) from rfl, a1, a2, ← Int.natCast_add, l1, wrap_nat _ hv1]
  have e2 : q2 ((val (L.map h1) : Nat) : Int) = ((val (L.map fun b => h2 (h1 b)) : Nat) : Int) := by
    unfold q2
    rw [sr_nat _ 2 (by decide)]
    have a1 := ibit_nat (val (L.map h1) / 2 ^ 2) 3689348814741910323 (by omega) (by decide)
    have a2 := ibit_nat (val (L.map h1)) 3689348814741910323 hv1 (by decide)
    rw [show (3689348814741910323 : Int) = ((3689348814741910323 : Nat) : Int) from rfl, a1, a2, ← Int.natCast_add, show (2 : Nat) ^ 2 = 4 from rfl, l2]
    exact wrap_nat _ hv2
  have e3 : q3 ((val (L.map fun b => h2 (h1 b)) : Nat) : Int) = ((val (L.map pc) : Nat) : Int) := by
    unfold q3
    rw [sr_nat _ 4 (by decide), ← Int.natCast_add, show (2 : Nat) ^ 4 = 16 from rfl, wrap_nat _ hv3]
    have a1 := ibit_nat _ 1085102592571150095 hv3 (by decide)
    rw [show (1085102592571150095 : Int) = ((1085102592571150095 : Nat) : Int) from rfl, a1, l3]
  unfold pop
  rw [e1, e2, e3]
  subst hL
  simp only [List.map_cons, List.map_nil]
  have p0 := (tab4' h0).1; have p1 := (tab4' h1').1; have p2 := (tab4' h2').1; have p3 := (tab4' h3').1; have p4 := (tab4' h4).1; have p5 := (tab4' h5).1; have p6 := (tab4' h6).1; have p7 := (tab4' h7).1
  generalize pc b0 = a0 at *; generalize pc b1 = a1 at *; generalize pc b2 = a2 at *; generalize pc b3 = a3 at *; generalize pc b4 = a4 at *; generalize pc b5 = a5 at *; generalize pc b6 = a6 at *; generalize pc b7 = a7 at *
  clear e1 e2 e3 l1 l2 l3 hv hv1 hv2 hv3 hlt hl1 hl m85 m51 m15 m51'
  have hm : ∀ {c0 c1 c2 c3 c4 c5 c6 c7 : Nat}, c0 < 128 → c1 < 128 → c2 < 128 → c3 < 128 → c4 < 128 → c5 < 128 → c6 < 128 → c7 < 128 → ∀ b ∈ [c0, c1, c2, c3, c4, c5, c6, c7], b < 256 := by
    intro c0 c1 c2 c3 c4 c5 c6 c7 g0 g1 g2 g3 g4 g5 g6 g7 b hb
    simp only [List.mem_cons, List.not_mem_nil, or_false] at hb
    rcases hb with rfl | rfl | rfl | rfl | rfl | rfl | rfl | rfl <;> omega
  have f4 : q4 ((val [a0, a1, a2, a3, a4, a5, a6, a7] : Nat) : Int) = ((val [a0 + a1, a1 + a2, a2 + a3, a3 + a4, a4 + a5, a5 + a6, a6 + a7, a7] : Nat) : Int) := by
    unfold q4
    rw [sr_nat _ 8 (by decide), ← Int.natCast_add, show (2 : Nat) ^ 8 = 256 from rfl, val_drop1 (by omega), ← val_vadd]
    exact wrap_nat _ (val_lt _ (hm (by omega) (by omega) (by omega) (by omega) (by omega) (by omega) (by omega) (by omega)) rfl)
  have f5 : q5 ((val [a0 + a1, a1 + a2, a2 + a3, a3 + a4, a4 + a5, a5 + a6, a6 + a7, a7] : Nat) : Int) = ((val [a0 + a1 + (a2 + a3), a1 + a2 + (a3 + a4), a2 + a3 + (a4 + a5), a3 + a4 + (a5 + a6), a4 + a5 + (a6 + a7), a5 + a6 + a7, a6 + a7, a7] : Nat) : Int) := by
    unfold q5
    rw [sr_nat _ 16 (by decide), ← Int.natCast_add, show (2 : Nat) ^ 16 = 256 * 256 from rfl, ← Nat.div_div_eq_div_mul, val_drop1 (by omega), val_drop1 (by omega), ← val_vadd]
    exact wrap_nat _ (val_lt _ (hm (by omega) (by omega) (by omega) (by omega) (by omega) (by omega) (by omega) (by omega)) rfl)
  have f6 : q6 ((val [a0 + a1 + (a2 + a3), a1 + a2 + (a3 + a4), a2 + a3 + (a4 + a5), a3 + a4 + (a5 + a6), a4 + a5 + (a6 + a7), a5 + a6 + a7, a6 + a7, a7] : Nat) : Int) = ((val [a0 + a1 + (a2 + a3) + (a4 + a5 + (a6 + a7)), a1 + a2 + (a3 + a4) + (a5 + a6 + a7), a2 + a3 + (a4 + a5) + (a6 + a7), a3 + a4 + (a5 + a6) + a7, a4 + a5 + (a6 + a7), a5 + a6 + a7, a6 + a7, a7] : Nat) : Int) := by
    unfold q6
    rw [sr_nat _ 32 (by decide), ← Int.natCast_add, show (2 : Nat) ^ 32 = 256 * 256 * 256 * 256 from rfl, ← Nat.div_div_eq_div_mul, ← Nat.div_div_eq_div_mul, ← Nat.div_div_eq_div_mul, val_drop1 (by omega), val_drop1 (by omega), val_drop1 (by omega), val_drop1 (by omega), ← val_vadd]
    exact wrap_nat _ (val_lt _ (hm (by omega) (by omega) (by omega) (by omega) (by omega) (by omega) (by omega) (by omega)) rfl)
  rw [f4, f5, f6]
  have hz0 : ∃ r, val [a0 + a1 + (a2 + a3) + (a4 + a5 + (a6 + a7)), a1 + a2 + (a3 + a4) + (a5 + a6 + a7), a2 + a3 + (a4 + a5) + (a6 + a7), a3 + a4 + (a5 + a6) + a7, a4 + a5 + (a6 + a7), a5 + a6 + a7, a6 + a7, a7] = a0 + a1 + (a2 + a3) + (a4 + a5 + (a6 + a7)) + 256 * r ∧ r < 36028797018963968 := by
    refine ⟨_, rfl, ?_⟩
    have := val_lt [a1 + a2 + (a3 + a4) + (a5 + a6 + a7), a2 + a3 + (a4 + a5) + (a6 + a7), a3 + a4 + (a5 + a6) + a7, a4 + a5 + (a6 + a7), a5 + a6 + a7, a6 + a7, a7, 0] (hm (by omega) (by omega) (by omega) (by omega) (by omega) (by omega) (by omega) (by omega)) rfl
    have h8 := val_mono (m := 64) [a1 + a2 + (a3 + a4) + (a5 + a6 + a7), a2 + a3 + (a4 + a5) + (a6 + a7), a3 + a4 + (a5 + a6) + a7, a4 + a5 + (a6 + a7), a5 + a6 + a7, a6 + a7, a7] (by
      intro b hb
      simp only [List.mem_cons, List.not_mem_nil, or_false] at hb
      rcases hb with rfl | rfl | rfl | rfl | rfl | rfl | rfl <;> omega)
    have h9 : mk 64 [a1 + a2 + (a3 + a4) + (a5 + a6 + a7), a2 + a3 + (a4 + a5) + (a6 + a7), a3 + a4 + (a5 + a6) + a7, a4 + a5 + (a6 + a7), a5 + a6 + a7, a6 + a7, a7] = 18085043209519168 := by simp [mk, val]
    rw [h9] at h8
    omega
  obtain ⟨r, hz, hr⟩ := hz0
  rw [hz]
  generalize hz : a0 + a1 + (a2 + a3) + (a4 + a5 + (a6 + a7)) + 256 * r = z
  have hz1 : z < 9223372036854775808 := by omega
  rw [IntWalk.i64_in _ (by omega)]
  unfold ibit
  have hb1 : BitVec.ofInt IntKind.i64.bits (z : Int) = BitVec.ofNat 64 z := by
    show BitVec.ofInt 64 (z : Int) = _
    simp
  have hb2 : BitVec.ofInt IntKind.i64.bits 127 = BitVec.ofNat 64 127 := rfl
  simp only [hb1, hb2]
  have hb3 : (BitVec.ofNat 64 z &&& BitVec.ofNat 64 127).toNat = z &&& 127 := by
    rw [BitVec.toNat_and, BitVec.toNat_ofNat, BitVec.toNat_ofNat, Nat.mod_eq_of_lt (by omega)]
  show IntKind.i64.wrap ((BitVec.ofNat 64 z &&& BitVec.ofNat 64 127).toNat : Int) = _
  rw [hb3]
  have hb4 : z &&& 127 = z % 2 ^ 7 := Nat.and_two_pow_sub_one_eq_mod z 7
  rw [hb4, IntWalk.i64_in _ (by omega)]
  congr 1; omega

/-- None, all, or some. -/
theorem pop_ok (n : Nat) (hn : n < 18446744073709551616) : ∃ c : Nat, pop (n : Int) = (c : Int) ∧ c ≤ 64 ∧ (c = 0 ↔ n = 0) ∧ (c = 64 ↔ n = 18446744073709551615) := by
  have hb := pop_bytes (n % 256) (n / 256 % 256) (n / 65536 % 256) (n / 16777216 % 256) (n / 4294967296 % 256) (n / 1099511627776 % 256) (n / 281474976710656 % 256) (n / 72057594037927936 % 256) (by omega) (by omega) (by omega) (by omega) (by omega) (by omega) (by omega) (by omega)
  have hv : val [n % 256, n / 256 % 256, n / 65536 % 256, n / 16777216 % 256, n / 4294967296 % 256, n / 1099511627776 % 256, n / 281474976710656 % 256, n / 72057594037927936 % 256] = n := by
    simp only [val]; omega
  rw [hv] at hb
  refine ⟨_, hb, ?_⟩
  have z0 : pc 0 = 0 := by decide
  have z8 : pc 255 = 8 := by decide
  by_cases h0 : n = 0
  · subst h0; decide
  · by_cases h1 : n = 18446744073709551615
    · subst h1; decide
    · have t0 := tab4' (b := n % 256) (by omega); have t1 := tab4' (b := n / 256 % 256) (by omega); have t2 := tab4' (b := n / 65536 % 256) (by omega); have t3 := tab4' (b := n / 16777216 % 256) (by omega); have t4 := tab4' (b := n / 4294967296 % 256) (by omega); have t5 := tab4' (b := n / 1099511627776 % 256) (by omega); have t6 := tab4' (b := n / 281474976710656 % 256) (by omega); have t7 := tab4' (b := n / 72057594037927936 % 256) (by omega)
      refine ⟨by omega, ⟨fun h => ?_, fun h => absurd h h0⟩, ⟨fun h => ?_, fun h => absurd h h1⟩⟩
      · have := t0.2.1 (by omega); have := t1.2.1 (by omega); have := t2.2.1 (by omega); have := t3.2.1 (by omega); have := t4.2.1 (by omega); have := t5.2.1 (by omega); have := t6.2.1 (by omega); have := t7.2.1 (by omega)
        omega
      · have := t0.2.2 (by omega); have := t1.2.2 (by omega); have := t2.2.2 (by omega); have := t3.2.2 (by omega); have := t4.2.2 (by omega); have := t5.2.2 (by omega); have := t6.2.2 (by omega); have := t7.2.2 (by omega)
        omega
end Go.Proofs.Ytmgofjgfmcmceaa
end
section
namespace Go.Proofs.Ytmgofjgfmcmceaa
open Go.RowKit
set_option maxRecDepth 4000
set_option maxHeartbeats 2000000

theorem count_ok (s : S4) : ∃ c : Int, (c = 256 ↔ s = S4.full) ∧ (c = 0 ↔ s = S4.z) ∧ ∀ (lim : Nat) (H : Hp), CallEx X lim 36 [setV s] H fun v H1 => v = .int .i64 c ∧ H1 = H := by
  obtain ⟨a, b, c, d⟩ := s
  obtain ⟨ca, ea, la, za, fa⟩ := pop_ok a.toNat a.isLt
  obtain ⟨cb, eb, lb, zb, fb⟩ := pop_ok b.toNat b.isLt
  obtain ⟨cc, ec, lc, zc, fc⟩ := pop_ok c.toNat c.isLt
  obtain ⟨cd, ed, ld, zd, fd⟩ := pop_ok d.toNat d.isLt
  have hz : ∀ x : BitVec 64, x = 0#64 ↔ x.toNat = 0 := fun x => ⟨fun h => by subst h; rfl, fun h => BitVec.eq_of_toNat_eq h⟩
  have hf : ∀ x : BitVec 64, x = 18446744073709551615#64 ↔ x.toNat = 18446744073709551615 := fun x => ⟨fun h => by subst h; rfl, fun h => BitVec.eq_of_toNat_eq h⟩
  refine ⟨((ca + cb + cc + cd : Nat) : Int), ?_, ?_, fun lim H => ?_⟩
  · simp only [S4.full, S4.mk.injEq, hf, ← fa, ← fb, ← fc, ← fd]
    omega
  · simp only [S4.z, S4.mk.injEq, hz, ← za, ← zb, ← zc, ← zd]
    omega
  · refine call_eq (count_eq lim H _ _ _ _) ⟨?_, rfl⟩
    rw [ea, eb, ec, ed]
    rw [IntWalk.i64_in (0 + (ca : Int)) (by omega), IntWalk.i64_in (0 + (ca : Int) + cb) (by omega), IntWalk.i64_in (0 + (ca : Int) + cb + cc) (by omega), IntWalk.i64_in _ (by omega)]
    congr 1; omega

/-- The bytes of a set from one on. -/
def bytesFrom (s : S4) (i : Nat) : List Nat := (List.range' i (256 - i)).filter s.has
theorem bytesFrom_0 (s : S4) : bytesFrom s 0 = s.bytes := by simp [bytesFrom, S4.bytes, List.range_eq_range']
theorem bytesFrom_end (s : S4) : bytesFrom s 256 = [] := by simp [bytesFrom]
theorem bytesFrom_step (s : S4) (i : Nat) (h : i < 256) : bytesFrom s i = if s.has i then i :: bytesFrom s (i + 1) else bytesFrom s (i + 1) := by
  unfold bytesFrom
  have : 256 - i = (256 - (i + 1)) + 1 := by omega
  rw [this, List.range'_succ, List.filter_cons]

theorem set_loop (lim : Nat) (R : Value → Hp → Prop) (s : S4) : ∀ (n i : Nat) (acc : List UInt8) (H : Hp) (t : List TV), i + n = 256 → acc.length ≤ 1 + 4 * i →
    clrF [1, 3, 4] 0 t = (.undef :: .box [.int .u64 s.a.toNat, .int .u64 s.b.toNat, .int .u64 s.c.toNat, .int .u64 s.d.toNat] :: .undef :: .val (.string (bs acc)) :: .val (.int .i64 (i : Int)) :: .undef :: .undef :: .undef :: .undef :: .undef :: .undef :: .undef :: .undef :: .undef :: .undef :: .undef :: .undef :: .undef :: .undef :: .undef :: .undef :: .undef :: .undef :: .undef :: .undef :: .undef :: []) →
    (∀ H1, Gr H H1 → R (.string (bs (acc ++ (bytesFrom s i).flatMap octL ++ [93]))) H1) →
    RUN X 27 lim (fun t1 H1 => ∃ v, resultsA X.P Try.f27 t1 = some v ∧ R v H1) [.blk 1, .code c27_rrrr] (.loop c27_rrrlrbo) t H
  | 0, i, acc, H, t, hi, ha, ht, hR => by
    have hi' : i = 256 := by omega
    subst hi'
    have e1 : decide (((256 : Nat) : Int) < 256) = false := by decide
    have hz : (bs acc).size + (bs [93]).size ≤ 9223372036854775807 := by rw [bs_size, bs_size]; simp only [List.length_cons, List.length_nil]; omega
    have e2 : ∀ a b, binR X.P .add 9 a b (.string (bs acc)) (.string ⟨#[93]⟩) = some (.string (bs (acc ++ [93]))) := fun a b => by rw [← bs_app]; exact bin_sadd hz
    rw [bytesFrom_end] at hR
    (refine run_loopk (b := c27_rrrlrbo) rfl keep27_8 ?_; rw [ht])
    refine rS c27_rrrlrbol c27_rrrlrbor rfl ?_
    refine rS c27_rrrlrboll c27_rrrlrbolr rfl ?_
    refine run_region rfl ?_
    simp only [sX, simprocAttr, -List.reduceReplicate]
    refine rF c27_rrrlrbolrt c27_rrrlrbolre rfl rfl ?_
    refine run_exit rfl ?_
    simp only [sP, if_true]
    refine rS c27_rrrrl c27_rrrrr rfl ?_
    refine run_region rfl ?_
    simp only [sX, simprocAttr, -List.reduceReplicate, e2]
    refine run_ret rfl ?_
    (simp only [sP]; refine ⟨_, (by rw [resultsA_eq Try.results27]; simp only [sR, List.mapM_cons, List.mapM_nil]; rfl), ?_⟩)
    have := hR _ (Gr.refl _)
    simpa using this
  | n + 1, i, acc, H, t, hi, ha, ht, hR => by
    have hi' : i < 256 := by omega
    have e1 : decide ((i : Int) < 256) = true := by simp; omega
    have w1 : IntKind.u8.wrap (i : Int) = (i : Int) := IntWalk.u8_in _ (by omega)
    have w2 : IntKind.i64.wrap ((i : Int) + 1) = ((i + 1 : Nat) : Int) := by rw [IntWalk.i64_in _ (by omega)]; omega
    have hst := bytesFrom_step s i hi'
    cases hb : s.has i with
    | true =>
      rw [hb, if_pos rfl] at hst
      rw [hst] at hR
      have hz : (bs acc).size + (bs (octL i)).size ≤ 9223372036854775807 := by rw [bs_size, bs_size]; simp only [octL, List.length_cons, List.length_nil]; omega
      have e2 : ∀ a b, binR X.P .add 9 a b (.string (bs acc)) (.string (bs (octL i))) = some (.string (bs (acc ++ octL i))) := fun a b => by rw [← bs_app]; exact bin_sadd hz
      (refine run_loopk (b := c27_rrrlrbo) rfl keep27_8 ?_; rw [ht])
      refine rS c27_rrrlrbol c27_rrrlrbor rfl ?_
      refine rS c27_rrrlrboll c27_rrrlrbolr rfl ?_
      refine run_region rfl ?_
      simp only [sX, simprocAttr, -List.reduceReplicate, e1]
      refine rT c27_rrrlrbolrt c27_rrrlrbolre rfl rfl ?_
      refine run_skip rfl ?_
      simp only [sP]
      refine rS c27_rrrlrborl c27_rrrlrborr rfl ?_
      refine run_block (b := c27_rrrlrborlb) rfl ?_
      refine rS c27_rrrlrborlbl c27_rrrlrborlbr rfl ?_
      refine run_region rfl ?_
      simp only [sX, simprocAttr, -List.reduceReplicate, w1]
      refine call_of (has_ok _ _ s i hi') ?_
      rintro v H2 ⟨rfl, h2⟩
      subst h2
      rw [hb]
      simp only [sX, simprocAttr, -List.reduceReplicate]
      refine rT c27_rrrlrborlbrt c27_rrrlrborlbre rfl rfl ?_
      refine run_region rfl ?_
      simp only [sX, simprocAttr, -List.reduceReplicate, w1]
      refine call_of (oct_ok _ _ i hi') ?_
      rintro v H1 ⟨rfl, hg⟩
      simp only [sX, simprocAttr, -List.reduceReplicate, e2]
      refine run_region rfl ?_
      simp only [sX, simprocAttr, -List.reduceReplicate, w2]
      refine set_loop lim R s n (i + 1) (acc ++ octL i) _ _ (by omega) (by simp only [List.length_append, octL, List.length_cons, List.length_nil]; omega) (by simp only [sC, Nat.reduceBEq, Nat.reduceAdd]) ?_
      intro H3 hg3
      have := hR H3 (hg.trans hg3)
      simpa [List.append_assoc] using this
    | false =>
      rw [hb] at hst
      simp only [Bool.false_eq_true, if_false] at hst
      rw [hst] at hR
      (refine run_loopk (b := c27_rrrlrbo) rfl keep27_8 ?_; rw [ht])
      refine rS c27_rrrlrbol c27_rrrlrbor rfl ?_
      refine rS c27_rrrlrboll c27_rrrlrbolr rfl ?_
      refine run_region rfl ?_
      simp only [sX, simprocAttr, -List.reduceReplicate, e1]
      refine rT c27_rrrlrbolrt c27_rrrlrbolre rfl rfl ?_
      refine run_skip rfl ?_
      simp only [sP]
      refine rS c27_rrrlrborl c27_rrrlrborr rfl ?_
      refine run_block (b := c27_rrrlrborlb) rfl ?_
      refine rS c27_rrrlrborlbl c27_rrrlrborlbr rfl ?_
      refine run_region rfl ?_
      simp only [sX, simprocAttr, -List.reduceReplicate, w1]
      refine call_of (has_ok _ _ s i hi') ?_
      rintro v H2 ⟨rfl, h2⟩
      subst h2
      rw [hb]
      simp only [sX, simprocAttr, -List.reduceReplicate]
      refine rF c27_rrrlrborlbrt c27_rrrlrborlbre rfl rfl ?_
      refine run_skip rfl ?_
      simp only [sP]
      refine run_region rfl ?_
      simp only [sX, simprocAttr, -List.reduceReplicate, w2]
      exact set_loop lim R s n (i + 1) acc _ _ (by omega) (by omega) (by simp only [sC, Nat.reduceBEq, Nat.reduceAdd]) hR

theorem setT_ok (lim : Nat) (H : Hp) (s : S4) : CallEx X lim 27 [setV s] H fun v H1 => v = .string (bs (setT s)) ∧ Gr H H1 := by
  obtain ⟨c, hf, hz, hc⟩ := count_ok s
  unfold setT
  by_cases h1 : s = S4.full
  · have e1 : decide (c = 256) = true := by simp [hf.mpr h1]
    rw [if_pos h1]
    unfold setV at hc ⊢
    (refine call_intro fun27 name27 body27 ?_; simp only [Try.ntmps27, List.map_cons, List.map_nil, List.length_cons, List.length_nil, Nat.zero_add, Nat.reduceSub, List.replicate_succ, List.replicate_zero, List.cons_append, List.nil_append])
    refine rS c27_l c27_r rfl ?_
    refine run_region rfl ?_
    simp only [sX, simprocAttr, -List.reduceReplicate]
    refine rS c27_rl c27_rr rfl ?_
    refine rS c27_rll c27_rlr rfl ?_
    refine run_region rfl ?_
    simp only [sX, simprocAttr, -List.reduceReplicate]
    refine call_of (hc _ _) ?_
    rintro v H2 ⟨rfl, h2⟩
    subst h2
    simp only [sX, simprocAttr, -List.reduceReplicate]
    refine run_block (b := c27_rlrb) rfl ?_
    refine rS c27_rlrbl c27_rlrbr rfl ?_
    refine run_region rfl ?_
    simp only [sX, simprocAttr, -List.reduceReplicate, e1]
    refine rT c27_rlrbrt c27_rlrbre rfl rfl ?_
    refine rS c27_rlrbrtl c27_rlrbrtr rfl ?_
    refine run_region rfl ?_
    simp only [sX, simprocAttr, -List.reduceReplicate]
    refine run_ret rfl ?_
    (simp only [sP]; refine ⟨_, (by rw [resultsA_eq Try.results27]; simp only [sR, List.mapM_cons, List.mapM_nil]; rfl), ?_⟩)
    exact ⟨rfl, Gr.refl _⟩
  · have e1 : decide (c = 256) = false := by simp; exact fun h => h1 (hf.mp h)
    rw [if_neg h1]
    by_cases h2 : s = S4.z
    · have e2 : decide (c = 0) = true := by simp [hz.mpr h2]
      rw [if_pos h2]
      unfold setV at hc ⊢
      (refine call_intro fun27 name27 body27 ?_; simp only [Try.ntmps27, List.map_cons, List.map_nil, List.length_cons, List.length_nil, Nat.zero_add, Nat.reduceSub, List.replicate_succ, List.replicate_zero, List.cons_append, List.nil_append])
      refine rS c27_l c27_r rfl ?_
      refine run_region rfl ?_
      simp only [sX, simprocAttr, -List.reduceReplicate]
      refine rS c27_rl c27_rr rfl ?_
      refine rS c27_rll c27_rlr rfl ?_
      refine run_region rfl ?_
      simp only [sX, simprocAttr, -List.reduceReplicate]
      refine call_of (hc _ _) ?_
      rintro v H2 ⟨rfl, h2⟩
      subst h2
      simp only [sX, simprocAttr, -List.reduceReplicate]
      refine run_block (b := c27_rlrb) rfl ?_
      refine rS c27_rlrbl c27_rlrbr rfl ?_
      refine run_region rfl ?_
      simp only [sX, simprocAttr, -List.reduceReplicate, e1]
      refine rF c27_rlrbrt c27_rlrbre rfl rfl ?_
      refine rS c27_rlrbrel c27_rlrbrer rfl ?_
      refine run_region rfl ?_
      simp only [sX, simprocAttr, -List.reduceReplicate, e2]
      refine rT c27_rlrbrert c27_rlrbrere rfl rfl ?_
      refine rS c27_rlrbrertl c27_rlrbrertr rfl ?_
      refine run_region rfl ?_
      simp only [sX, simprocAttr, -List.reduceReplicate]
      refine run_ret rfl ?_
      (simp only [sP]; refine ⟨_, (by rw [resultsA_eq Try.results27]; simp only [sR, List.mapM_cons, List.mapM_nil]; rfl), ?_⟩)
      exact ⟨rfl, Gr.refl _⟩
    · have e2 : decide (c = 0) = false := by simp; exact fun h => h2 (hz.mp h)
      rw [if_neg h2]
      unfold setV at hc ⊢
      (refine call_intro fun27 name27 body27 ?_; simp only [Try.ntmps27, List.map_cons, List.map_nil, List.length_cons, List.length_nil, Nat.zero_add, Nat.reduceSub, List.replicate_succ, List.replicate_zero, List.cons_append, List.nil_append])
      refine rS c27_l c27_r rfl ?_
      refine run_region rfl ?_
      simp only [sX, simprocAttr, -List.reduceReplicate]
      refine rS c27_rl c27_rr rfl ?_
      refine rS c27_rll c27_rlr rfl ?_
      refine run_region rfl ?_
      simp only [sX, simprocAttr, -List.reduceReplicate]
      refine call_of (hc _ _) ?_
      rintro v H2 ⟨rfl, h2⟩
      subst h2
      simp only [sX, simprocAttr, -List.reduceReplicate]
      refine run_block (b := c27_rlrb) rfl ?_
      refine rS c27_rlrbl c27_rlrbr rfl ?_
      refine run_region rfl ?_
      simp only [sX, simprocAttr, -List.reduceReplicate, e1]
      refine rF c27_rlrbrt c27_rlrbre rfl rfl ?_
      refine rS c27_rlrbrel c27_rlrbrer rfl ?_
      refine run_region rfl ?_
      simp only [sX, simprocAttr, -List.reduceReplicate, e2]
      refine rF c27_rlrbrert c27_rlrbrere rfl rfl ?_
      refine run_skip rfl ?_
      simp only [sP]
      refine rS c27_rrl c27_rrr rfl ?_
      refine run_region rfl ?_
      simp only [sX, simprocAttr, -List.reduceReplicate]
      refine rS c27_rrrl c27_rrrr rfl ?_
      refine rS c27_rrrll c27_rrrlr rfl ?_
      refine run_region rfl ?_
      simp only [sX, simprocAttr, -List.reduceReplicate]
      refine run_block (b := c27_rrrlrb) rfl ?_
      refine set_loop _ _ s 256 0 [91] _ _ rfl (by simp) (by simp only [sC, Nat.reduceBEq, Nat.reduceAdd]; rfl) ?_
      intro H1 hg
      refine ⟨?_, hg⟩
      rw [bytesFrom_0]; rfl
end Go.Proofs.Ytmgofjgfmcmceaa
end
