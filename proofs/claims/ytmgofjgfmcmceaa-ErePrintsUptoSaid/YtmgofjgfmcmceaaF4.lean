/- More depth changes nothing. Runs without a count of depth: a stack of code, and what an operation leads to. What each kind of operation leads to, for simp. Values, for simp. Conversions, results, the rest for simp. Regions with guards: which slots the guards ask is known beforehand. -/
import Derived.Test.YtmgofjgfmcmceaaF3
import Derived.Test.YtmgofjgfmcmceaaProg
section
namespace Go.Proofs.Ytmgofjgfmcmceaa
open Go.RowKit

section
variable {X : Ctx} {f : FuncId} {lim : Nat}

def CallLe (call call' : CallF) : Prop := ∀ g vs H r, call g vs H = some r → call' g vs H = some r
def RunLe (ex ex' : Run) : Prop := ∀ c t H r, ex c t H = some r → ex' c t H = some r

theorem stepOp_le {call call' : CallF} (hc : CallLe call call') {t : List TV} {H : Hp} {o : Oper} {r : TV × List TV × Hp} (h : stepOp X f lim call t H o = some r) : stepOp X f lim call' t H o = some r := by
  cases hop : o.op with
  | call c =>
    simp only [stepOp, hop] at h ⊢
    split at h
    · exact h
    · exact h
    · exact h
    · exact h
    · split at h
      · rename_i g first captured vs e1 e2
        split at h
        · rename_i he
          rw [if_pos he]
          cases hv : call g (vs ++ captured.toList) H with
          | none => rw [hv] at h; cases h
          | some p => rw [hv] at h; rw [hc _ _ _ _ hv]; exact h
        · cases h
      · cases h
    · cases h
  | _ => simpa only [stepOp, hop] using h

theorem runOps_le {call call' : CallF} (hc : CallLe call call') {ops : Array Oper} : ∀ (l : List Oper) {t : List TV} {H : Hp} {r : List TV × Hp}, runOps X f lim call ops l t H = some r → runOps X f lim call' ops l t H = some r
  | [], t, H, r, h => h
  | o :: l, t, H, r, h => by
    simp only [runOps] at h ⊢
    cases h1 : runOp X f lim call ops t H o with
    | none => rw [h1] at h; cases h
    | some p =>
      rw [h1] at h
      have : runOp X f lim call' ops t H o = some p := by
        unfold runOp at h1 ⊢
        split at h1
        · rename_i hw
          split at h1
          · rename_i x t1 H1 hs
            simp only [stepOp_le hc hs]; exact h1
          · cases h1
        · rename_i hw; (try simp only [hw]); exact h1
        · cases h1
      rw [this]
      exact runOps_le hc l h

theorem stepI_le {call call' : CallF} (hc : CallLe call call') {ops : Array Oper} {n0 i : Nat} {s r : List TV × Hp} (h : stepI X f lim n0 call ops i s = some r) : stepI X f lim n0 call' ops i s = some r := by
  unfold stepI at h ⊢
  split at h
  · rename_i ho; (try simp only [ho]); exact h
  · rename_i o ho
    (try simp only [ho])
    split at h
    · rename_i hw
      (try simp only [hw])
      split at h
      · rename_i hp
        rw [if_pos hp]
        split at h
        · rename_i x t1 H1 hs
          simp only [stepOp_le hc hs]; exact h
        · cases h
      · cases h
    · rename_i hw; (try simp only [hw]); exact h
    · cases h

theorem runI_le {call call' : CallF} (hc : CallLe call call') {ops : Array Oper} {n0 : Nat} : ∀ (l : List Nat) {s r : List TV × Hp}, runI X f lim n0 call ops l s = some r → runI X f lim n0 call' ops l s = some r
  | [], s, r, h => h
  | i :: l, s, r, h => by
    simp only [runI] at h ⊢
    cases h1 : stepI X f lim n0 call ops i s with
    | none => rw [h1] at h; cases h
    | some p => rw [h1] at h; rw [stepI_le hc h1]; exact runI_le hc l h

theorem loopGo_le {ex ex' : Run} (hx : RunLe ex ex') (ks : List Nat) (c : Code) : ∀ (k k' : Nat), k ≤ k' → ∀ (t : List TV) (H : Hp) (r : Ex × St), loopGo ex ks c k t H = some r → loopGo ex' ks c k' t H = some r
  | 0, _, _, _, _, _, h => by cases h
  | k + 1, 0, hk, _, _, _, _ => by omega
  | k + 1, k' + 1, hk, t, H, r, h => by
    unfold loopGo at h ⊢
    cases h1 : ex c (clr ks t) H with
    | none => rw [h1] at h; cases h
    | some p =>
      rw [h1] at h
      rw [hx _ _ _ _ h1]
      obtain ⟨e, t1, H1⟩ := p
      cases e with
      | normal => exact loopGo_le hx ks c k k' (by omega) t1 H1 r h
      | _ => exact h
theorem scopeGo_le {ex ex' : Run} (hx : RunLe ex ex') (c : Code) : ∀ (k k' : Nat), k ≤ k' → ∀ (cur : Code) (t : List TV) (H : Hp) (r : Ex × St), scopeGo ex c k cur t H = some r → scopeGo ex' c k' cur t H = some r
  | 0, _, _, _, _, _, _, h => by cases h
  | k + 1, 0, hk, _, _, _, _, _ => by omega
  | k + 1, k' + 1, hk, cur, t, H, r, h => by
    unfold scopeGo at h ⊢
    cases h1 : ex cur t H with
    | none => rw [h1] at h; cases h
    | some p =>
      rw [h1] at h
      rw [hx _ _ _ _ h1]
      obtain ⟨e, t1, H1⟩ := p
      cases e with
      | goto l =>
        simp only at h ⊢
        cases hf : findLabel c l with
        | none => rw [hf] at h; cases h
        | some rest => rw [hf] at h; exact scopeGo_le hx c k k' (by omega) rest t1 H1 r h
      | _ => exact h

theorem callBy_le {ex ex' : FuncId → Nat → Run} (hx : ∀ g l, RunLe (ex g l) (ex' g l)) : CallLe (callBy X lim ex) (callBy X lim ex') := by
  intro g vs H r h
  unfold callBy at h ⊢
  split at h
  · cases h
  · rename_i fn hfn
    (try simp only [hfn])
    split at h
    · cases h
    · rename_i hn
      rw [if_neg hn]
      split at h
      · rename_i hb; (try simp only [hb]); exact h
      · rename_i c hb
        (try simp only [hb])
        split at h
        · rename_i t1 H1 h1; rw [hx _ _ _ _ _ _ h1]; exact h
        · rename_i t1 H1 h1; rw [hx _ _ _ _ _ _ h1]; exact h
        · cases h

theorem exec_mono : ∀ (n m : Nat), n ≤ m → ∀ (f : FuncId) (lim : Nat), RunLe (exec X n f lim) (exec X m f lim)
  | 0, _, _, _, _, _, _, _, _, h => by cases h
  | n + 1, 0, hm, _, _, _, _, _, _, _ => by omega
  | n + 1, m + 1, hm, f, lim, c, t, H, r, h => by
    have ih := exec_mono n m (by omega)
    have hc : CallLe (callBy X lim (exec X n)) (callBy X lim (exec X m)) := callBy_le ih
    have seq : ∀ c t H r, exec X n f lim c t H = some r → exec X m f lim c t H = some r := ih f lim
    unfold exec at h ⊢
    split at h
    · exact h
    · exact h
    · rename_i id ops draw
      (try simp only)
      split at h
      · rename_i hd
        rw [if_pos hd]
        split at h
        · rename_i hok
          rw [if_pos hok]
          split at h
          · rename_i t1 H1 h1
            simp only [runI_le hc _ h1]; exact h
          · cases h
        · cases h
      · rename_i hd
        rw [if_neg hd]
        split at h
        · rename_i t1 H1 h1
          simp only [runOps_le hc _ h1]; exact h
        · cases h
    · rename_i a b
      (try simp only)
      cases h1 : exec X n f lim a t H with
      | none => rw [h1] at h; cases h
      | some p =>
        rw [h1] at h
        rw [seq _ _ _ _ h1]
        obtain ⟨e, t1, H1⟩ := p
        cases e with
        | normal => exact seq _ _ _ _ h
        | _ => exact h
    · rename_i x a b
      (try simp only)
      split at h
      · rename_i hv; (try simp only [hv]); exact seq _ _ _ _ h
      · rename_i hv; (try simp only [hv]); exact seq _ _ _ _ h
      · cases h
    · rename_i id a
      (try simp only)
      cases h1 : exec X n f lim a t H with
      | none => rw [h1] at h; cases h
      | some p => rw [h1] at h; rw [seq _ _ _ _ h1]; exact h
    · exact loopGo_le (ih f lim) _ _ _ _ (by omega) _ _ _ h
    · exact scopeGo_le (ih f lim) _ _ _ (by omega) _ _ _ _ h
    · exact h
    · exact h
    · exact h
    · cases h
theorem execCall_mono {n m : Nat} (hm : n ≤ m) (lim : Nat) : CallLe (execCall X n lim) (execCall X m lim) := callBy_le (exec_mono n m hm)
end
end Go.Proofs.Ytmgofjgfmcmceaa
end
section
namespace Go.Proofs.Ytmgofjgfmcmceaa
open Go.RowKit

/-- What waits behind the code that runs. -/
inductive It where
  | code (c : Code)
  | blk (id : Nat)
  | lp (c : Code)

section
variable (X : Ctx) (f : FuncId) (lim : Nat) (Q : List TV → Hp → Prop)

/-- From an end on, through what waits. -/
def POP : List It → Ex → List TV → Hp → Prop
  | [], e, t, H => (e = .ret ∨ e = .normal) ∧ Q t H
  | .code c :: k, .normal, t, H => ∃ n e t1 H1, exec X n f lim c t H = some (e, t1, H1) ∧ POP k e t1 H1
  | .code _ :: k, e, t, H => POP k e t H
  | .blk id :: k, .exit id', t, H => if id' = id then POP k .normal t H else POP k (.exit id') t H
  | .blk _ :: k, e, t, H => POP k e t H
  | .lp c :: k, .normal, t, H => ∃ n e t1 H1, exec X n f lim (.loop c) t H = some (e, t1, H1) ∧ POP k e t1 H1
  | .lp _ :: k, e, t, H => POP k e t H

/-- The code, and what waits, run to the function's end, where Q holds. -/
def RUN (k : List It) (c : Code) (t : List TV) (H : Hp) : Prop := ∃ n e t1 H1, exec X n f lim c t H = some (e, t1, H1) ∧ POP X f lim Q k e t1 H1
end

section
variable {X : Ctx} {f : FuncId} {lim : Nat} {Q : List TV → Hp → Prop} {k : List It} {c : Code} {t : List TV} {H : Hp}

theorem run_seq {a b : Code} (h : c = .seq a b) (hr : RUN X f lim Q (.code b :: k) a t H) : RUN X f lim Q k c t H := by
  subst h
  obtain ⟨n, e, t1, H1, h1, h2⟩ := hr
  cases e with
  | normal =>
    obtain ⟨m, e2, t2, H2, h3, h4⟩ := h2
    refine ⟨max n m + 1, e2, t2, H2, ?_, h4⟩
    simp only [exec]
    rw [exec_mono n (max n m) (Nat.le_max_left _ _) f lim _ _ _ _ h1]
    exact exec_mono m (max n m) (Nat.le_max_right _ _) f lim _ _ _ _ h3
  | _ => exact ⟨n + 1, _, t1, H1, by simp only [exec]; rw [h1], h2⟩
theorem run_skip (h : c = .skip) (hr : POP X f lim Q k .normal t H) : RUN X f lim Q k c t H := by
  subst h; exact ⟨1, _, t, H, rfl, hr⟩
theorem run_ret (h : c = .ret) (hr : POP X f lim Q k .ret t H) : RUN X f lim Q k c t H := by
  subst h; exact ⟨1, _, t, H, rfl, hr⟩
theorem run_exit {id : Nat} (h : c = .exit id) (hr : POP X f lim Q k (.exit id) t H) : RUN X f lim Q k c t H := by
  subst h; exact ⟨1, _, t, H, rfl, hr⟩
theorem run_cond {x : Operand} {a b : Code} {v : Bool} (h : c = .cond x a b) (hv : ev X t x = .val (.bool v)) (h1 : v = true → RUN X f lim Q k a t H) (h2 : v = false → RUN X f lim Q k b t H) : RUN X f lim Q k c t H := by
  subst h
  cases v with
  | true =>
    obtain ⟨n, e, t1, H1, g1, g2⟩ := h1 rfl
    exact ⟨n + 1, e, t1, H1, by simp only [exec, hv]; exact g1, g2⟩
  | false =>
    obtain ⟨n, e, t1, H1, g1, g2⟩ := h2 rfl
    exact ⟨n + 1, e, t1, H1, by simp only [exec, hv]; exact g1, g2⟩
theorem rS (a b : Code) (h : c = .seq a b) (hr : RUN X f lim Q (.code b :: k) a t H) : RUN X f lim Q k c t H := run_seq h hr
theorem rT {x : Operand} (a b : Code) (h : c = .cond x a b) (hv : ev X t x = .val (.bool true)) (h1 : RUN X f lim Q k a t H) : RUN X f lim Q k c t H :=
  run_cond h hv (fun _ => h1) (fun hc => by cases hc)
theorem rF {x : Operand} (a b : Code) (h : c = .cond x a b) (hv : ev X t x = .val (.bool false)) (h1 : RUN X f lim Q k b t H) : RUN X f lim Q k c t H :=
  run_cond h hv (fun hc => by cases hc) (fun _ => h1)
theorem run_block {id : Nat} {b : Code} (h : c = .block id b) (hr : RUN X f lim Q (.blk id :: k) b t H) : RUN X f lim Q k c t H := by
  subst h
  obtain ⟨n, e, t1, H1, g1, g2⟩ := hr
  cases e with
  | exit id' =>
    simp only [POP] at g2
    by_cases hid : id' = id
    · rw [if_pos hid] at g2
      exact ⟨n + 1, _, t1, H1, by simp only [exec, g1]; rw [if_pos hid], g2⟩
    · rw [if_neg hid] at g2
      exact ⟨n + 1, _, t1, H1, by simp only [exec, g1]; rw [if_neg hid], g2⟩
  | _ => exact ⟨n + 1, _, t1, H1, by simp only [exec]; rw [g1], g2⟩

theorem exec_loop (n : Nat) (b : Code) : exec X (n + 1) f lim (.loop b) t H = loopGo (exec X n f lim) (X.keep f (firstRegion b)) b n t H := rfl
theorem loopGo_more {ex ex' : Run} (hx : RunLe ex ex') (ks : List Nat) (c : Code) {k k' : Nat} (hk : k ≤ k') {t : List TV} {H : Hp} {r : Ex × St} (h : loopGo ex ks c k t H = some r) : loopGo ex' ks c k' t H = some r := loopGo_le hx ks c k k' hk t H r h
/-- A round. -/
theorem run_loop {b : Code} (h : c = .loop b) (hr : RUN X f lim Q (.lp b :: k) b (clr (X.keep f (firstRegion b)) t) H) : RUN X f lim Q k c t H := by
  subst h
  obtain ⟨n, e, t1, H1, g1, g2⟩ := hr
  cases e with
  | normal =>
    obtain ⟨m, e2, t2, H2, h3, h4⟩ := g2
    refine ⟨max n m + 2, e2, t2, H2, ?_, h4⟩
    cases m with
    | zero => cases h3
    | succ m =>
      rw [exec_loop] at h3 ⊢
      unfold loopGo
      rw [exec_mono n (max n (m + 1) + 1) (by omega) f lim _ _ _ _ g1]
      exact loopGo_le (exec_mono m (max n (m + 1) + 1) (by omega) f lim) _ _ m _ (by omega) _ _ _ h3
  | _ =>
    refine ⟨n + 2, _, t1, H1, ?_, g2⟩
    rw [exec_loop]
    unfold loopGo
    rw [exec_mono n (n + 1) (by omega) f lim _ _ _ _ g1]

theorem POP_code : POP X f lim Q (.code c :: k) .normal t H = RUN X f lim Q k c t H := rfl
theorem POP_lp : POP X f lim Q (.lp c :: k) .normal t H = RUN X f lim Q k (.loop c) t H := rfl
theorem POP_blk {id : Nat} : POP X f lim Q (.blk id :: k) .normal t H = POP X f lim Q k .normal t H := rfl
theorem POP_code_ret : POP X f lim Q (.code c :: k) .ret t H = POP X f lim Q k .ret t H := rfl
theorem POP_lp_ret : POP X f lim Q (.lp c :: k) .ret t H = POP X f lim Q k .ret t H := rfl
theorem POP_blk_ret {id : Nat} : POP X f lim Q (.blk id :: k) .ret t H = POP X f lim Q k .ret t H := rfl
theorem POP_code_exit {id : Nat} : POP X f lim Q (.code c :: k) (.exit id) t H = POP X f lim Q k (.exit id) t H := rfl
theorem POP_lp_exit {id : Nat} : POP X f lim Q (.lp c :: k) (.exit id) t H = POP X f lim Q k (.exit id) t H := rfl
theorem POP_blk_exit {id id' : Nat} : POP X f lim Q (.blk id :: k) (.exit id') t H = if id' = id then POP X f lim Q k .normal t H else POP X f lim Q k (.exit id') t H := rfl
theorem POP_nil_ret : POP X f lim Q [] .ret t H = Q t H := by simp [POP]
theorem POP_nil : POP X f lim Q [] .normal t H = Q t H := by simp [POP]
end

/-! ### operations -/
/-- An operation; the slot of its guard; where the order is open, what's to be seen to. -/
structure GI where
  o : Oper
  g : Option (Option Tmp × Bool)
  dr : Option (List Nat × Bool × Bool)

def gres (ops : Array Oper) (o : Oper) : Option (Option Tmp × Bool) := o.guard.map fun g => ((ops[g.1]?).bind (·.dst), g.2)
def gits (ops : Array Oper) : List GI := ops.toList.map fun o => ⟨o, gres ops o, none⟩
/-- Per operation, what's to be seen to. -/
def drs (X : Ctx) (f : FuncId) (ops : Array Oper) : List (List Nat × Bool × Bool) := (List.range ops.size).map fun i => (avoids X f ops i, guardC X f ops i, guardL X f ops i)
def gitsD (ops : Array Oper) : List Oper → List (List Nat × Bool × Bool) → List GI
  | o :: l, d :: ds => ⟨o, gres ops o, some d⟩ :: gitsD ops l ds
  | _, _ => []

def wantG (t : List TV) : Option (Option Tmp × Bool) → Option Bool
  | none => some true
  | some (none, _) => none
  | some (some d, w) => match t.getD d .undef with
    | .val (.bool b) => some (b == w)
    | .val (.tuple vs) => if vs.isEmpty then some false else none
    | _ => none
theorem wantG_eq (ops : Array Oper) (t : List TV) (o : Oper) : wantG t (gres ops o) = wantA ops t o := by
  unfold wantG wantA gres
  cases o.guard with
  | none => rfl
  | some p =>
    obtain ⟨j, w⟩ := p
    simp only [Option.map_some]
    cases (ops[j]?).bind (·.dst) <;> rfl

/-- Is the place in order? -/
def plOk (X : Ctx) (f : FuncId) (n0 : Nat) (t : List TV) (o : Oper) : Option (List Nat × Bool × Bool) → Bool
  | none => true
  | some (_, gc, gl) => match o.op with
    | .load _ a => match placeOf (ev X t a) with
      | some (.obj b _) => !gc || decide (b < n0)
      | _ => !gl
    | .store _ (.tmp d) _ => if (X.loc f).contains d then isBoxT (t.getD d .undef) else true
    | _ => true
def puOk (t : List TV) (dst : Option Tmp) (x : TV) : Option (List Nat × Bool × Bool) → Bool
  | none => true
  | some (av, _) => putOk av t dst x

def stepG (X : Ctx) (f : FuncId) (lim n0 : Nat) (call : CallF) (i : GI) (s : List TV × Hp) : Option (List TV × Hp) :=
  match wantG s.1 i.g with
  | some true => if plOk X f n0 s.1 i.o i.dr then match stepOp X f lim call s.1 s.2 i.o with
      | some (x, t, H) => if puOk s.1 i.o.dst x i.dr then some (putT t i.o.dst x, H) else none
      | none => none
    else none
  | some false => if puOk s.1 i.o.dst (.val undef) i.dr then some (putT s.1 i.o.dst (.val undef), s.2) else none
  | none => none
def runG (X : Ctx) (f : FuncId) (lim n0 : Nat) (call : CallF) : List GI → List TV × Hp → Option (List TV × Hp)
  | [], s => some s
  | i :: rest, s => match stepG X f lim n0 call i s with
    | some s => runG X f lim n0 call rest s
    | none => none

section
variable {X : Ctx} {f : FuncId} {lim n0 : Nat} {call : CallF}

theorem runG_ops (ops : Array Oper) : ∀ (l : List Oper) (t : List TV) (H : Hp), runG X f lim n0 call (l.map fun o => ⟨o, gres ops o, none⟩) (t, H) = runOps X f lim call ops l t H
  | [], t, H => rfl
  | o :: l, t, H => by
    have h : stepG X f lim n0 call ⟨o, gres ops o, none⟩ (t, H) = runOp X f lim call ops t H o := by
      unfold stepG runOp
      simp only [wantG_eq, plOk, puOk, if_true]
      cases wantA ops t o with
      | none => rfl
      | some b => cases b <;> rfl
    simp only [List.map_cons, runG, runOps]
    rw [h]
    cases runOp X f lim call ops t H o with
    | none => rfl
    | some p => obtain ⟨t1, H1⟩ := p; exact runG_ops ops l t1 H1

theorem runG_draw (ops : Array Oper) : ∀ (l : List Oper) (i : Nat) (s : List TV × Hp), ops.toList.drop i = l → runG X f lim n0 call (gitsD ops l ((List.range' i l.length).map fun i => (avoids X f ops i, guardC X f ops i, guardL X f ops i))) s = runI X f lim n0 call ops (List.range' i l.length) s
  | [], i, s, _ => rfl
  | o :: l, i, s, hd => by
    have ho : ops[i]? = some o := by
      have : (ops.toList.drop i)[0]? = some o := by rw [hd]; rfl
      simpa using this
    have hl : ops.toList.drop (i + 1) = l := by
      have := congrArg List.tail hd
      simpa using this
    simp only [List.length_cons, List.range'_succ, List.map_cons, gitsD, runG, runI]
    have h : stepG X f lim n0 call ⟨o, gres ops o, some (avoids X f ops i, guardC X f ops i, guardL X f ops i)⟩ s = stepI X f lim n0 call ops i s := by
      unfold stepG stepI
      rw [ho]
      simp only [wantG_eq]
      cases wantA ops s.1 o with
      | none => rfl
      | some b =>
        cases b with
        | false => rfl
        | true =>
          have : plOk X f n0 s.1 o (some (avoids X f ops i, guardC X f ops i, guardL X f ops i)) = placeOk X f ops i n0 s.1 o := by
            unfold plOk placeOk
            cases o.op <;> rfl
          rw [this]; rfl
    rw [h]
    cases stepI X f lim n0 call ops i s with
    | none => rfl
    | some p => exact runG_draw ops l (i + 1) p hl

theorem stepG_le {call call' : CallF} (hc : CallLe call call') {i : GI} {s r : List TV × Hp} (h : stepG X f lim n0 call i s = some r) : stepG X f lim n0 call' i s = some r := by
  unfold stepG at h ⊢
  cases hw : wantG s.1 i.g with
  | none => rw [hw] at h; cases h
  | some b =>
    rw [hw] at h
    cases b with
    | false => exact h
    | true =>
      simp only at h ⊢
      split at h
      · rename_i hp
        rw [if_pos hp]
        cases hs : stepOp X f lim call s.1 s.2 i.o with
        | none => rw [hs] at h; cases h
        | some p => rw [hs] at h; rw [stepOp_le hc hs]; exact h
      · cases h
theorem runG_le {call call' : CallF} (hc : CallLe call call') : ∀ (l : List GI) {s r : List TV × Hp}, runG X f lim n0 call l s = some r → runG X f lim n0 call' l s = some r
  | [], s, r, h => h
  | i :: l, s, r, h => by
    simp only [runG] at h ⊢
    cases h1 : stepG X f lim n0 call i s with
    | none => rw [h1] at h; cases h
    | some p => rw [h1] at h; rw [stepG_le hc h1]; exact runG_le hc l h
end

section
variable (X : Ctx) (f : FuncId) (lim n0 : Nat) (Q : List TV → Hp → Prop) (k : List It)
/-- The operations that are left, then what waits. -/
def OPS (l : List GI) (t : List TV) (H : Hp) : Prop := ∃ n t1 H1, runG X f lim n0 (callBy X lim (exec X n)) l (t, H) = some (t1, H1) ∧ POP X f lim Q k .normal t1 H1
/-- Behind an operation of value x. -/
def FIN (i : GI) (l : List GI) (t t1 : List TV) (H1 : Hp) (x : TV) : Prop := puOk t i.o.dst x i.dr = true ∧ OPS X f lim n0 Q k l (putT t1 i.o.dst x) H1
/-- An operation that is carried out. -/
def EXE (i : GI) (l : List GI) (t : List TV) (H : Hp) : Prop := ∃ n x t1 H1, stepOp X f lim (callBy X lim (exec X n)) t H i.o = some (x, t1, H1) ∧ FIN X f lim n0 Q k i l t t1 H1 x
/-- A call. -/
def CALL (i : GI) (l : List GI) (t : List TV) (g : FuncId) (vs : List Value) (H : Hp) : Prop := ∃ n v H1, callBy X lim (exec X n) g vs H = some (v, H1) ∧ FIN X f lim n0 Q k i l t t H1 (.val v)
end

/-- A call answers so. -/
def CallEx (X : Ctx) (lim : Nat) (g : FuncId) (vs : List Value) (H : Hp) (R : Value → Hp → Prop) : Prop := ∃ n v H1, callBy X lim (exec X n) g vs H = some (v, H1) ∧ R v H1

section
variable {X : Ctx} {f : FuncId} {lim n0 : Nat} {Q : List TV → Hp → Prop} {k : List It} {t : List TV} {H : Hp} {i : GI} {l : List GI} {c : Code}

theorem run_region {id : Nat} {ops : Array Oper} (h : c = .region id ops false) (hr : OPS X f lim 0 Q k (gits ops) t H) : RUN X f lim Q k c t H := by
  subst h
  obtain ⟨n, t1, H1, h1, h2⟩ := hr
  refine ⟨n + 1, .normal, t1, H1, ?_, h2⟩
  simp only [exec, Bool.false_eq_true, if_false]
  rw [gits, runG_ops] at h1
  rw [h1]
theorem run_draw {id : Nat} {ops : Array Oper} {ds : List (List Nat × Bool × Bool)} (h : c = .region id ops true) (hd : drawOk X f ops = true) (hs : drs X f ops = ds) (hr : OPS X f lim H.length Q k (gitsD ops ops.toList ds) t H) : RUN X f lim Q k c t H := by
  subst h
  obtain ⟨n, t1, H1, h1, h2⟩ := hr
  refine ⟨n + 1, .normal, t1, H1, ?_, h2⟩
  simp only [exec, if_true, hd]
  have := runG_draw (X := X) (f := f) (lim := lim) (n0 := H.length) (call := callBy X lim (exec X n)) ops ops.toList 0 (t, H) (by simp)
  rw [← hs, drs, List.range_eq_range'] at h1
  simp only [Array.length_toList] at this
  rw [this] at h1
  rw [List.range_eq_range', h1]

theorem OPS_nil : OPS X f lim n0 Q k [] t H = POP X f lim Q k .normal t H := by
  unfold OPS
  simp only [runG, Option.some.injEq, Prod.mk.injEq]
  exact propext ⟨fun ⟨n, t1, H1, ⟨e1, e2⟩, h⟩ => by subst e1; subst e2; exact h, fun h => ⟨0, t, H, ⟨rfl, rfl⟩, h⟩⟩
theorem EXE_of (hw : wantG t i.g = some true) (hp : plOk X f n0 t i.o i.dr = true) (h : EXE X f lim n0 Q k i l t H) : OPS X f lim n0 Q k (i :: l) t H := by
  obtain ⟨n, x, t1, H1, h1, h2, m, t2, H2, h3, h4⟩ := h
  refine ⟨max n m, t2, H2, ?_, h4⟩
  have hc1 : CallLe (callBy X lim (exec X n)) (callBy X lim (exec X (max n m))) := callBy_le (exec_mono n _ (Nat.le_max_left _ _))
  have hc2 : CallLe (callBy X lim (exec X m)) (callBy X lim (exec X (max n m))) := callBy_le (exec_mono m _ (Nat.le_max_right _ _))
  simp only [runG, stepG, hw, hp, if_true, stepOp_le hc1 h1, h2]
  exact runG_le hc2 l h3
theorem OPS_skip (hw : wantG t i.g = some false) (hp : puOk t i.o.dst (.val undef) i.dr = true) (h : OPS X f lim n0 Q k l (putT t i.o.dst (.val undef)) H) : OPS X f lim n0 Q k (i :: l) t H := by
  obtain ⟨m, t2, H2, h3, h4⟩ := h
  refine ⟨m, t2, H2, ?_, h4⟩
  simp only [runG, stepG, hw, hp, if_true]
  exact h3
/-- All at once, for simp. -/
theorem OPS_cons : OPS X f lim n0 Q k (i :: l) t H = match wantG t i.g with
    | some true => plOk X f n0 t i.o i.dr = true ∧ EXE X f lim n0 Q k i l t H
    | some false => puOk t i.o.dst (.val undef) i.dr = true ∧ OPS X f lim n0 Q k l (putT t i.o.dst (.val undef)) H
    | none => False := by
  apply propext
  cases hw : wantG t i.g with
  | none =>
    simp only [iff_false]
    rintro ⟨n, t1, H1, h, _⟩
    simp [runG, stepG, hw] at h
  | some b =>
    cases b with
    | false =>
      refine ⟨?_, fun h => OPS_skip hw h.1 h.2⟩
      rintro ⟨n, t1, H1, h, h2⟩
      simp only [runG, stepG, hw] at h
      split at h
      · rename_i hs
        split at hs
        · rename_i hp
          simp only [Option.some.injEq] at hs
          subst hs
          exact ⟨hp, n, t1, H1, h, h2⟩
        · cases hs
      · cases h
    | true =>
      refine ⟨?_, fun h => EXE_of hw h.1 h.2⟩
      rintro ⟨n, t1, H1, h, h2⟩
      simp only [runG, stepG, hw] at h
      split at h
      · rename_i s hs
        split at hs
        · rename_i hp
          split at hs
          · rename_i x t2 H2 hst
            split at hs
            · rename_i hpu
              simp only [Option.some.injEq] at hs
              subst hs
              exact ⟨hp, n, x, t2, H2, hst, hpu, n, t1, H1, h, h2⟩
            · cases hs
          · cases hs
        · cases hs
      · cases h

theorem FIN_eq {t1 : List TV} {H1 : Hp} {x : TV} : FIN X f lim n0 Q k i l t t1 H1 x = (puOk t i.o.dst x i.dr = true ∧ OPS X f lim n0 Q k l (putT t1 i.o.dst x) H1) := rfl
theorem FIN_plain {o : Oper} {g : Option (Option Tmp × Bool)} {t1 : List TV} {H1 : Hp} {x : TV} : FIN X f lim n0 Q k ⟨o, g, none⟩ l t t1 H1 x = OPS X f lim n0 Q k l (putT t1 o.dst x) H1 := by simp [FIN, puOk]

theorem call_of {g : FuncId} {vs : List Value} {R : Value → Hp → Prop} (hc : CallEx X lim g vs H R) (h : ∀ v H1, R v H1 → FIN X f lim n0 Q k i l t t H1 (.val v)) : CALL X f lim n0 Q k i l t g vs H := by
  obtain ⟨n, v, H1, h1, h2⟩ := hc
  exact ⟨n, v, H1, h1, h v H1 h2⟩
theorem CallEx.mono {g : FuncId} {vs : List Value} {R R' : Value → Hp → Prop} (hc : CallEx X lim g vs H R) (h : ∀ v H1, R v H1 → R' v H1) : CallEx X lim g vs H R' := by
  obtain ⟨n, v, H1, h1, h2⟩ := hc
  exact ⟨n, v, H1, h1, h v H1 h2⟩

/-- A function that is entered. -/
theorem call_intro {g : FuncId} {fn : Func} {b : Code} {vs : List Value} {R : Value → Hp → Prop} (hf : X.P.funcs[g]? = some fn) (hn : (fn.name == "runtime.NumGoroutine") = false) (hb : fn.body = some b)
    (h : RUN X g (if X.pur g then H.length else lim) (fun t1 H1 => ∃ v, resultsA X.P fn t1 = some v ∧ R v H1) [] b (vs.map TV.val ++ List.replicate (fn.ntmps - vs.length) (.val undef)) H) : CallEx X lim g vs H R := by
  obtain ⟨n, e, t1, H1, h1, h2, v, h3, h4⟩ := h
  refine ⟨n, v, H1, ?_, h4⟩
  unfold callBy
  simp only [hf, hn, hb, h1]
  rcases h2 with rfl | rfl <;> simp only [h3, Option.map_some] <;> rfl
end
end Go.Proofs.Ytmgofjgfmcmceaa
end
section
namespace Go.Proofs.Ytmgofjgfmcmceaa
open Go.RowKit

section
variable (X : Ctx) (f : FuncId) (lim n0 : Nat) (Q : List TV → Hp → Prop) (k : List It)
def FR (i : GI) (l : List GI) (t : List TV) : Option (TV × List TV × Hp) → Prop
  | some (x, t1, H1) => FIN X f lim n0 Q k i l t t1 H1 x
  | none => False
def SV (i : GI) (l : List GI) (t : List TV) (H : Hp) : Option Value → Prop
  | some v => FIN X f lim n0 Q k i l t t H (.val v)
  | none => False
/-- A call, behind its operands. -/
def CL (i : GI) (l : List GI) (t : List TV) (H : Hp) : Option Value → Option (List Value) → Prop
  | some (.func (.func g) first captured), some vs => first.isEmpty = true ∧ CALL X f lim n0 Q k i l t g (vs ++ captured.toList) H
  | _, _ => False
end

def binS (op : BinOp) (ty : TypeId) (x y : Operand) (v u : Value) : Sem Next := do
  let r ← (do eqGuard op ty x y v u; Go.binOp op ty v u)
  pure (.value r)
def binR (P : Program) (op : BinOp) (ty : TypeId) (x y : Operand) (v u : Value) : Option Value :=
  match some v, some u with
  | some (.pointer p), some (.pointer none) => match op, P.underlying ty with
    | .eql, some (.pointer _) => some (.bool p.isNone)
    | .neq, some (.pointer _) => some (.bool p.isSome)
    | _, _ => none
  | some v, some u => if isScal v && isScal u then pureNext P (binS op ty x y v u)
    else match v, u with
      | .agg cs, .agg cs' => if cs.toList.all isScal && cs'.toList.all isScal then pureNext P (binS op ty x y v u) else none
      | _, _ => none
  | _, _ => none
def unR (P : Program) (op : UnOp) (v : Value) : Option Value := if isScal v then pureNext P (do let r ← Op.unary op v; pure (.value r)) else none
def ldT (X : Ctx) (t : List TV) (H : Hp) (ty : TypeId) : TV → Option Value
  | .lptr d off => match t.getD d .undef with
    | .box cs => ldv X.P ty cs off
    | _ => none
  | .val (.pointer (some ⟨b, off, none⟩)) => (getO H b).bind fun o => ldv X.P ty o.cells off
  | _ => none
def stT (X : Ctx) (lim : Nat) (t : List TV) (H : Hp) (ty : TypeId) : TV → Option Value → Option (TV × List TV × Hp)
  | .lptr d off, some v => match t.getD d .undef with
    | .box cs => (stv X.P ty cs off v).map fun cs' => (.val undef, t.set d (.box cs'), H)
    | _ => none
  | .val (.pointer (some ⟨b, off, none⟩)), some v => (getO H b).bind fun ob => if ob.wr = true ∧ lim ≤ b then (stv X.P ty ob.cells off v).map fun cs' => (.val undef, t, H.set b (some { ob with cells := cs' })) else none
  | _, _ => none
def idxA (X : Ctx) (ty : TypeId) (x : TV) (ix : Option Int) : Option TV :=
  match X.P.underlying ty, ix with
  | some (.array len e), some i => (placeOf x).bind fun p => (sizeP X.P e).bind fun es => bif inB i len then some ((p.add (i.toNat * es)).tv) else none
  | some (.slice e), some i => match x with
    | .val (.slice (some ⟨b, off, none⟩) n _) => (sizeP X.P e).bind fun es => bif inB i n then some (.val (.pointer (some ⟨b, off + i.toNat * es, none⟩))) else none
    | _ => none
  | _, _ => none
def idxR (X : Ctx) (ty : TypeId) (_ix : Operand) (v : Option Value) (i : Option Int) : Option Value :=
  match v, i with
  | some (.string s), some i => pureNext X.P (do let r ← Instr.index ty (.string s) (.int .i64 i); pure (.value r))
  | some (.agg cs), some i => match X.P.underlying ty with
    | some (.array len e) => (sizeP X.P e).bind fun es => bif inB i len then ldv X.P e cs.toList (i.toNat * es) else none
    | _ => none
  | _, _ => none
def tupR (v : Value) (i : Nat) : Option Value := match v with
  | .tuple vs => vs[i]?
  | _ => none
def lenR (X : Ctx) (v : Value) (ty : Option TypeDesc) : Option Value :=
  match v, ty with
  | .slice _ n _, some (.slice _) => some (.int .i64 n)
  | .string s, some .string => some (.int .i64 s.size)
  | _, _ => none

section
variable {X : Ctx} {f : FuncId} {lim n0 : Nat} {Q : List TV → Hp → Prop} {k : List It} {t : List TV} {H : Hp} {i : GI} {l : List GI} {c : Code}
variable {dst : Option Tmp} {ty : TypeId} {pos : String} {af : Array Edge} {gu : Option (Nat × Bool)} {g : Option (Option Tmp × Bool)} {dr : Option (List Nat × Bool × Bool)}

theorem FR_some {x : TV} {t1 : List TV} {H1 : Hp} : FR X f lim n0 Q k i l t (some (x, t1, H1)) = FIN X f lim n0 Q k i l t t1 H1 x := rfl
theorem SV_some {v : Value} : SV X f lim n0 Q k i l t H (some v) = FIN X f lim n0 Q k i l t t H (.val v) := rfl
theorem SV_FR {r : Option Value} : SV X f lim n0 Q k i l t H r = FR X f lim n0 Q k i l t (r.map fun v => (.val v, t, H)) := by cases r <;> rfl
theorem CL_some {g : FuncId} {vs : List Value} {cap : Array Value} : CL X f lim n0 Q k i l t H (some (.func (.func g) #[] cap)) (some vs) = CALL X f lim n0 Q k i l t g (vs ++ cap.toList) H := by simp [CL]

theorem EXE_r {r : Option (TV × List TV × Hp)} (h : ∀ call, stepOp X f lim call t H i.o = r) : EXE X f lim n0 Q k i l t H = FR X f lim n0 Q k i l t r := by
  apply propext
  unfold EXE
  simp only [h]
  cases r with
  | none => simp [FR]
  | some p =>
    obtain ⟨x, t1, H1⟩ := p
    simp only [Option.some.injEq, Prod.mk.injEq, FR]
    exact ⟨fun ⟨n, x', t', H', ⟨e1, e2, e3⟩, hh⟩ => by subst e1; subst e2; subst e3; exact hh, fun hh => ⟨0, x, t1, H1, ⟨rfl, rfl, rfl⟩, hh⟩⟩

theorem exe_move {x : Operand} : EXE X f lim n0 Q k ⟨⟨dst, .move x, ty, pos, af, gu⟩, g, dr⟩ l t H = FIN X f lim n0 Q k ⟨⟨dst, .move x, ty, pos, af, gu⟩, g, dr⟩ l t t H (ev X t x) := by
  rw [EXE_r (fun _ => rfl)]; rfl
theorem exe_assign {x : Operand} : EXE X f lim n0 Q k ⟨⟨dst, .assign x, ty, pos, af, gu⟩, g, dr⟩ l t H = FIN X f lim n0 Q k ⟨⟨dst, .assign x, ty, pos, af, gu⟩, g, dr⟩ l t t H (ev X t x) := by
  rw [EXE_r (fun _ => rfl)]; rfl
def pickR (c a b : TV) : Option TV := match c with
  | .val (.bool c) => some (bif c then a else b)
  | _ => none
theorem exe_pick {x a b : Operand} : EXE X f lim n0 Q k ⟨⟨dst, .pick x a b, ty, pos, af, gu⟩, g, dr⟩ l t H = FR X f lim n0 Q k ⟨⟨dst, .pick x a b, ty, pos, af, gu⟩, g, dr⟩ l t ((pickR (ev X t x) (ev X t a) (ev X t b)).map fun v => (v, t, H)) := by
  refine EXE_r fun _ => ?_
  simp only [stepOp, pickR]
  generalize ev X t x = cx
  cases cx with
  | val v => cases v <;> rfl
  | _ => rfl
theorem exe_bin {op : BinOp} {ty1 ty2 : TypeId} {x y : Operand} : EXE X f lim n0 Q k ⟨⟨dst, .binOp op ty1 x y ty2, ty, pos, af, gu⟩, g, dr⟩ l t H = SV X f lim n0 Q k ⟨⟨dst, .binOp op ty1 x y ty2, ty, pos, af, gu⟩, g, dr⟩ l t H ((evv X t x).bind fun v => (evv X t y).bind fun u => binR X.P op ty1 x y v u) := by
  rw [SV_FR]
  refine EXE_r fun _ => ?_
  simp only [stepOp]
  cases hx : evv X t x with
  | none => rfl
  | some v =>
    cases hy : evv X t y with
    | none => cases v <;> rfl
    | some u =>
      have e : execOp (rho X t) ⟨dst, .binOp op ty1 x y ty2, ty, pos, af, gu⟩ = binS op ty1 x y v u := by
        have h1 : rho X t x = v := by unfold rho; rw [hx]; rfl
        have h2 : rho X t y = u := by unfold rho; rw [hy]; rfl
        rw [← h1, ← h2]; rfl
      simp only [Option.bind_some, binR, e]
      cases v with
      | pointer p =>
        cases u with
        | pointer q =>
          cases q with
          | none =>
            simp only
            generalize X.P.underlying ty1 = d
            cases d with
            | none => cases op <;> rfl
            | some d => cases d <;> cases op <;> rfl
          | some a => rfl
        | _ => rfl
      | agg cs =>
        cases u with
        | agg cs' =>
          have e0 : (isScal (.agg cs) && isScal (.agg cs')) = false := rfl
          simp only [e0, Bool.false_eq_true, if_false]
          split <;> rfl
        | _ => rfl
      | _ =>
        simp only
        split <;> rfl
theorem exe_un {op : UnOp} {ty1 : TypeId} {x : Operand} : EXE X f lim n0 Q k ⟨⟨dst, .unOp op ty1 x, ty, pos, af, gu⟩, g, dr⟩ l t H = SV X f lim n0 Q k ⟨⟨dst, .unOp op ty1 x, ty, pos, af, gu⟩, g, dr⟩ l t H ((evv X t x).bind fun v => unR X.P op v) := by
  rw [SV_FR]
  refine EXE_r fun _ => ?_
  simp only [stepOp]
  cases hx : evv X t x with
  | none =>
    have : evs X t x = none := by
      unfold evv at hx; unfold evs
      generalize ev X t x = y at hx ⊢
      cases y <;> first | rfl | cases hx
    rw [this]; rfl
  | some v =>
    have hev : ev X t x = .val v := by
      unfold evv at hx
      split at hx
      · rename_i v' hv; simp only [Option.some.injEq] at hx; rw [hv, hx]
      · cases hx
    have e : execOp (rho X t) ⟨dst, .unOp op ty1 x, ty, pos, af, gu⟩ = (do let r ← Op.unary op v; pure (.value r)) := by
      have h1 : rho X t x = v := by unfold rho; rw [hx]; rfl
      rw [← h1]; rfl
    simp only [evs, hev, Option.bind_some, unR]
    by_cases hs : isScal v = true
    · simp only [hs, if_true, e]
    · simp only [hs]; rfl
theorem exe_load {ty1 : TypeId} {x : Operand} : EXE X f lim n0 Q k ⟨⟨dst, .load ty1 x, ty, pos, af, gu⟩, g, dr⟩ l t H = SV X f lim n0 Q k ⟨⟨dst, .load ty1 x, ty, pos, af, gu⟩, g, dr⟩ l t H (ldT X t H ty1 (ev X t x)) := by
  rw [SV_FR]
  refine EXE_r fun _ => ?_
  simp only [stepOp]
  cases hx : ev X t x with
  | undef => rfl
  | box cs => rfl
  | lptr d off =>
    simp only [placeOf, ldT]
    generalize t.getD d .undef = y
    cases y <;> rfl
  | val v =>
    cases v with
    | pointer p =>
      cases p with
      | none => rfl
      | some a =>
        obtain ⟨b, off, sp⟩ := a
        cases sp with
        | none =>
          simp only [placeOf, ldT]
          cases getO H b <;> rfl
        | some _ => rfl
    | _ => rfl
theorem exe_store {ty1 : TypeId} {x y : Operand} : EXE X f lim n0 Q k ⟨⟨dst, .store ty1 x y, ty, pos, af, gu⟩, g, dr⟩ l t H = FR X f lim n0 Q k ⟨⟨dst, .store ty1 x y, ty, pos, af, gu⟩, g, dr⟩ l t (stT X lim t H ty1 (ev X t x) (evv X t y)) := by
  refine EXE_r fun _ => ?_
  simp only [stepOp]
  cases hy : evv X t y with
  | none =>
    cases hx : ev X t x with
    | val v =>
      cases v with
      | pointer p =>
        cases p with
        | none => rfl
        | some a => obtain ⟨b, off, sp⟩ := a; cases sp <;> rfl
      | _ => rfl
    | _ => rfl
  | some u =>
    cases hx : ev X t x with
    | undef => rfl
    | box cs => rfl
    | lptr d off =>
      simp only [placeOf, stT]
      generalize t.getD d .undef = z
      cases z <;> rfl
    | val v =>
      cases v with
      | pointer p =>
        cases p with
        | none => rfl
        | some a =>
          obtain ⟨b, off, sp⟩ := a
          cases sp with
          | none =>
            simp only [placeOf, stT]
            cases getO H b <;> rfl
          | some _ => rfl
      | _ => rfl
theorem exe_alloc {e : TypeId} : EXE X f lim n0 Q k ⟨⟨dst, .alloc e, ty, pos, af, gu⟩, g, dr⟩ l t H = FR X f lim n0 Q k ⟨⟨dst, .alloc e, ty, pos, af, gu⟩, g, dr⟩ l t ((zeroP X.P e).bind fun z => if z.cells.toList.all noRef = true then newVar X f t H dst z.cells.toList else none) := by
  refine EXE_r fun _ => ?_
  simp only [stepOp]
  cases zeroP X.P e <;> rfl
theorem exe_box {e : TypeId} {x : Operand} : EXE X f lim n0 Q k ⟨⟨dst, .box e x, ty, pos, af, gu⟩, g, dr⟩ l t H = FR X f lim n0 Q k ⟨⟨dst, .box e x, ty, pos, af, gu⟩, g, dr⟩ l t ((evv X t x).bind fun v => newVar X f t H dst v.cells.toList) := by
  refine EXE_r fun _ => ?_
  simp only [stepOp]
  cases evv X t x <;> rfl
theorem exe_nilCheck {x : Operand} : EXE X f lim n0 Q k ⟨⟨dst, .nilCheck x, ty, pos, af, gu⟩, g, dr⟩ l t H = FR X f lim n0 Q k ⟨⟨dst, .nilCheck x, ty, pos, af, gu⟩, g, dr⟩ l t ((placeOf (ev X t x)).map fun p => (p.tv, t, H)) := by
  refine EXE_r fun _ => ?_
  simp only [stepOp]
  cases placeOf (ev X t x) <;> rfl
theorem exe_fieldAddr {s : TypeId} {x : Operand} {fl : Nat} : EXE X f lim n0 Q k ⟨⟨dst, .fieldAddr s x fl, ty, pos, af, gu⟩, g, dr⟩ l t H = FR X f lim n0 Q k ⟨⟨dst, .fieldAddr s x fl, ty, pos, af, gu⟩, g, dr⟩ l t ((placeOf (ev X t x)).bind fun p => (fieldP X.P s fl).map fun q => ((p.add q.1).tv, t, H)) := by
  refine EXE_r fun _ => ?_
  simp only [stepOp]
  cases placeOf (ev X t x) with
  | none => rfl
  | some p => cases fieldP X.P s fl <;> rfl
def fldR (X : Ctx) (s : TypeId) (fl : Nat) (v : Value) : Option Value := match v with
  | .agg cs => (fieldP X.P s fl).bind fun q => ldv X.P q.2 cs.toList q.1
  | _ => none
theorem exe_field {s : TypeId} {x : Operand} {fl : Nat} : EXE X f lim n0 Q k ⟨⟨dst, .field s x fl, ty, pos, af, gu⟩, g, dr⟩ l t H = SV X f lim n0 Q k ⟨⟨dst, .field s x fl, ty, pos, af, gu⟩, g, dr⟩ l t H ((evv X t x).bind fun v => fldR X s fl v) := by
  rw [SV_FR]
  refine EXE_r fun _ => ?_
  simp only [stepOp]
  cases evv X t x with
  | none => rfl
  | some v => cases v <;> first | rfl | (simp only [Option.bind_some, fldR]; cases fieldP X.P s fl <;> rfl)
theorem exe_indexAddr {ty1 : TypeId} {x ix : Operand} : EXE X f lim n0 Q k ⟨⟨dst, .indexAddr ty1 x ix, ty, pos, af, gu⟩, g, dr⟩ l t H = FR X f lim n0 Q k ⟨⟨dst, .indexAddr ty1 x ix, ty, pos, af, gu⟩, g, dr⟩ l t ((idxA X ty1 (ev X t x) ((evv X t ix).bind intOf?)).map fun v => (v, t, H)) := by
  refine EXE_r fun _ => ?_
  simp only [stepOp, idxA]
  generalize X.P.underlying ty1 = d
  generalize (evv X t ix).bind intOf? = i'
  cases i' with
  | none => cases d with
    | none => rfl
    | some d => cases d <;> rfl
  | some i' => cases d with
    | none => rfl
    | some d =>
      cases d with
      | array len e =>
        simp only
        cases placeOf (ev X t x) with
        | none => rfl
        | some p =>
          cases sizeP X.P e with
          | none => rfl
          | some es => simp only [Option.bind_some]; cases inB i' len <;> rfl
      | slice e =>
        simp only
        unfold evv
        generalize ev X t x = y
        cases y with
        | val v =>
          cases v with
          | slice a n c =>
            cases a with
            | none => rfl
            | some a =>
              obtain ⟨b, off, sp⟩ := a
              cases sp with
              | some _ => rfl
              | none =>
                cases sizeP X.P e with
                | none => rfl
                | some es => simp only [Option.bind_some]; cases inB i' n <;> rfl
          | _ => rfl
        | _ => rfl
      | _ => rfl
theorem exe_extract {x : Operand} {n : Nat} : EXE X f lim n0 Q k ⟨⟨dst, .extract x n, ty, pos, af, gu⟩, g, dr⟩ l t H = SV X f lim n0 Q k ⟨⟨dst, .extract x n, ty, pos, af, gu⟩, g, dr⟩ l t H ((evv X t x).bind fun v => tupR v n) := by
  rw [SV_FR]
  refine EXE_r fun _ => ?_
  simp only [stepOp]
  cases evv X t x with
  | none => rfl
  | some v => cases v <;> rfl
theorem exe_len {x : Operand} {at' : Array TypeId} {cl : Call} (h : cl.callee = .builtin .len) (ha : cl.args = #[x]) : EXE X f lim n0 Q k ⟨⟨dst, .call cl, ty, pos, af, gu⟩, g, dr⟩ l t H = SV X f lim n0 Q k ⟨⟨dst, .call cl, ty, pos, af, gu⟩, g, dr⟩ l t H ((evv X t x).bind fun v => lenR X v ((cl.argTypes[0]?).bind X.P.underlying)) := by
  rw [SV_FR]
  refine EXE_r fun _ => ?_
  simp only [stepOp, h, ha]
  simp only [List.getElem?_toArray, List.getElem?_cons_zero, List.size_toArray, List.length_cons, List.length_nil, Nat.zero_add]
  cases evv X t x with
  | none => rfl
  | some v =>
    simp only [Option.bind_some, lenR]
    cases (cl.argTypes[0]?).bind X.P.underlying with
    | none => cases v <;> rfl
    | some d => cases v <;> cases d <;> rfl
theorem exe_call {cl : Call} {x : Operand} (h : cl.callee = .value x) : EXE X f lim n0 Q k ⟨⟨dst, .call cl, ty, pos, af, gu⟩, g, dr⟩ l t H = CL X f lim n0 Q k ⟨⟨dst, .call cl, ty, pos, af, gu⟩, g, dr⟩ l t H (evv X t x) (cl.args.toList.mapM (evv X t)) := by
  apply propext
  unfold EXE
  simp only [stepOp, h]
  cases hx : evv X t x with
  | none => simp [CL]
  | some v =>
    cases hv : cl.args.toList.mapM (evv X t) with
    | none => cases v <;> simp [CL]
    | some vs =>
      cases v with
      | func fn first captured =>
        cases fn with
        | func g' =>
          simp only [CL, CALL]
          by_cases hf : first.isEmpty = true
          · simp only [hf, if_true, true_and]
            constructor
            · rintro ⟨n, y, t1, H1, h1, h2⟩
              obtain ⟨u, e1, e2, e3⟩ := ofV_ok h1
              subst e2; subst e3
              exact ⟨n, u, H1, e1, h2⟩
            · rintro ⟨n, u, H1, h1, h2⟩
              exact ⟨n, .val u, t, H1, by rw [h1]; rfl, h2⟩
          · simp [hf]
        | _ => simp [CL]
      | _ => simp [CL]
def bldR (X : Ctx) (ty : TypeId) : Option (List (Nat × Value)) → Option Value
  | some ps => match zeroP X.P ty with
    | some z => if z.cells.toList.all noRef && ps.all (fun p => p.2.cells.toList.all isCell) then pureRun X.P (Instr.build ty ps.toArray) else none
    | none => none
  | none => none
theorem exe_build {ty1 : TypeId} {parts : Array (Nat × Operand)} : EXE X f lim n0 Q k ⟨⟨dst, .build ty1 parts, ty, pos, af, gu⟩, g, dr⟩ l t H = SV X f lim n0 Q k ⟨⟨dst, .build ty1 parts, ty, pos, af, gu⟩, g, dr⟩ l t H (bldR X ty1 (parts.toList.mapM fun p => (evv X t p.2).map fun v => (p.1, v))) := by
  rw [SV_FR]
  refine EXE_r fun _ => ?_
  simp only [stepOp, bldR]
  cases parts.toList.mapM fun p => (evv X t p.2).map fun v => (p.1, v) with
  | none => rfl
  | some ps =>
    simp only
    cases zeroP X.P ty1 with
    | none => rfl
    | some z =>
      simp only
      split
      · cases pureRun X.P (Instr.build ty1 ps.toArray) <;> rfl
      · rfl
def bslR (X : Ctx) (ty : TypeId) (len : Nat) : Option (List (Nat × Value)) → Option (Nat × List Value)
  | some ps => match elemP X.P ty with
    | some e => match sizeP X.P e with
      | some es =>
        if len * es ≤ 2 ^ 24 then
          match (if len * es = 0 then some #[] else (zeroP X.P e).map (·.cells)) with
          | some z => if z.toList.all noRef && ps.all (fun p => p.2.cells.toList.all isCell) then match Instr.fill (fun i => some (i * es, es)) ((Array.range (len * es)).map (z[· % z.size]!)) ps with
              | some cs => some (es, cs.toList)
              | none => none
            else none
          | none => none
        else none
      | none => none
    | none => none
  | none => none
theorem exe_buildSlice {ty1 : TypeId} {len : Nat} {parts : Array (Nat × Operand)} : EXE X f lim n0 Q k ⟨⟨dst, .buildSlice ty1 len parts, ty, pos, af, gu⟩, g, dr⟩ l t H = FR X f lim n0 Q k ⟨⟨dst, .buildSlice ty1 len parts, ty, pos, af, gu⟩, g, dr⟩ l t ((bslR X ty1 len (parts.toList.mapM fun p => (evv X t p.2).map fun v => (p.1, v))).bind fun q => ofV t (newSlice H q.1 len q.2)) := by
  refine EXE_r fun _ => ?_
  simp only [stepOp, bslR]
  cases parts.toList.mapM fun p => (evv X t p.2).map fun v => (p.1, v) with
  | none => rfl
  | some ps =>
    simp only
    cases elemP X.P ty1 with
    | none => rfl
    | some e =>
      simp only
      cases sizeP X.P e with
      | none => rfl
      | some es =>
        simp only
        by_cases hle : len * es ≤ 2 ^ 24
        · rw [if_pos hle, if_pos hle]
          generalize (if len * es = 0 then some #[] else (zeroP X.P e).map (·.cells)) = zz
          cases zz with
          | none => rfl
          | some z =>
            simp only
            split
            · cases Instr.fill (fun i => some (i * es, es)) ((Array.range (len * es)).map (z[· % z.size]!)) ps <;> rfl
            · rfl
        · rw [if_neg hle, if_neg hle]; rfl
theorem ofV_some {v : Value} : ofV t (some (v, H)) = some (.val v, t, H) := rfl
/-- Any other. -/
theorem exe_gen {op : Op} (h : ∀ c, op ≠ .call c) : EXE X f lim n0 Q k ⟨⟨dst, op, ty, pos, af, gu⟩, g, dr⟩ l t H = FR X f lim n0 Q k ⟨⟨dst, op, ty, pos, af, gu⟩, g, dr⟩ l t (stepOp X f lim (fun _ _ _ => none) t H ⟨dst, op, ty, pos, af, gu⟩) := by
  refine EXE_r fun call => ?_
  cases op <;> first | rfl | exact absurd rfl (h _)
theorem exe_gen_call {cl : Call} (h : ∀ x, cl.callee ≠ .value x) : EXE X f lim n0 Q k ⟨⟨dst, .call cl, ty, pos, af, gu⟩, g, dr⟩ l t H = FR X f lim n0 Q k ⟨⟨dst, .call cl, ty, pos, af, gu⟩, g, dr⟩ l t (stepOp X f lim (fun _ _ _ => none) t H ⟨dst, .call cl, ty, pos, af, gu⟩) := by
  refine EXE_r fun call => ?_
  simp only [stepOp]
  split <;> first | rfl | exact absurd (by assumption) (h _)
end
end Go.Proofs.Ytmgofjgfmcmceaa
end
section
namespace Go.Proofs.Ytmgofjgfmcmceaa
def locTab : List (Nat × List Nat) := [(2, []), (3, [3, 7, 9]), (4, [2, 4, 5]), (5, [4, 7]), (6, [1]), (7, [1, 4, 7, 10, 11]), (8, [1]), (9, [2, 6]), (10, []), (11, [3]), (12, []), (13, [4]), (14, [2, 3]), (15, [1, 2, 3]), (16, [1]), (17, [1]), (18, [2, 3]), (19, [1]), (20, [2]), (21, [1]), (22, [2]), (23, []), (24, []), (25, [3, 8]), (26, [2, 7]), (27, [1]), (28, []), (29, [2]), (30, []), (31, [4, 5]), (32, [1, 2, 3]), (33, []), (34, [3]), (35, []), (36, [1]), (37, [2]), (38, []), (39, [2, 3]), (40, [4, 5, 6]), (41, []), (42, [2, 5]), (43, [3, 4]), (44, [3, 4, 13]), (45, [1, 2]), (46, [3, 4]), (47, [4, 5]), (48, [1, 2]), (49, [4, 10]), (50, [2, 3]), (51, []), (52, []), (53, [1, 2, 5]), (54, []), (55, [2]), (56, [2, 3, 4]), (57, [2, 4]), (58, []), (59, [2, 5]), (60, []), (61, [4, 5]), (62, [2, 4, 5, 6, 7])]
def keepTab : List ((Nat × Nat) × List Nat) := [((3, 15), [2, 7, 9, 12, 13, 14]), ((3, 11), [2, 7, 9, 12]), ((4, 5), [1, 2, 4, 5, 6]), ((5, 24), [2, 4, 7, 8]), ((10, 3), [0, 1, 5, 6]), ((11, 7), [8, 9]), ((15, 3), [1, 2, 3, 4]), ((18, 4), [2, 3, 5]), ((19, 4), [1, 3]), ((20, 4), [1, 2, 5]), ((21, 5), [1, 3, 4]), ((22, 2), [0, 2, 3]), ((25, 8), [1, 2, 7, 8, 9]), ((26, 6), [1, 4, 37, 38, 39]), ((27, 8), [1, 3, 4]), ((29, 2), [0, 2, 3]), ((31, 3), [0, 1, 4, 5, 6]), ((32, 3), [1, 2, 3, 4]), ((33, 3), [0, 1, 5, 6]), ((34, 7), [1, 3, 7, 8, 9, 10]), ((34, 4), [1, 3, 7]), ((34, 1), [1, 2, 3]), ((36, 3), [3, 6, 7]), ((39, 2), [0, 2, 3]), ((44, 23), [3, 4, 6, 8, 10, 11, 12]), ((48, 2), [1, 2, 4]), ((49, 8), [4, 7, 8, 9, 24]), ((50, 3), [2, 3, 6, 7, 8]), ((51, 15), [0, 5, 6]), ((51, 7), [0, 3, 33]), ((52, 2), [0, 3, 4]), ((53, 3), [1, 2, 3, 7, 8, 9]), ((56, 2), [2, 3, 4, 6]), ((59, 2), [0, 2, 4]), ((60, 17), [0, 6, 7]), ((61, 3), [1, 4, 5, 6])]
def purTab : List Nat := [12, 17, 35, 25, 40, 49, 53, 56, 61, 62, 28, 33, 34, 18, 37, 27, 36, 38, 41, 16, 26, 32, 4, 5, 13, 14, 15]
noncomputable def X : Ctx := { P := Try.prog, loc := fun f => (locTab.lookup f).getD [], keep := fun f r => (keepTab.lookup (f, r)).getD [], pur := fun f => purTab.contains f, glob := fun _ => none }
theorem loc2 : X.loc 2 = [] := by kernel_rfl
theorem loc3 : X.loc 3 = [3, 7, 9] := by kernel_rfl
theorem loc4 : X.loc 4 = [2, 4, 5] := by kernel_rfl
theorem loc5 : X.loc 5 = [4, 7] := by kernel_rfl
theorem loc6 : X.loc 6 = [1] := by kernel_rfl
theorem loc7 : X.loc 7 = [1, 4, 7, 10, 11] := by kernel_rfl
theorem loc8 : X.loc 8 = [1] := by kernel_rfl
theorem loc9 : X.loc 9 = [2, 6] := by kernel_rfl
theorem loc10 : X.loc 10 = [] := by kernel_rfl
theorem loc11 : X.loc 11 = [3] := by kernel_rfl
theorem loc12 : X.loc 12 = [] := by kernel_rfl
theorem loc13 : X.loc 13 = [4] := by kernel_rfl
theorem loc14 : X.loc 14 = [2, 3] := by kernel_rfl
theorem loc15 : X.loc 15 = [1, 2, 3] := by kernel_rfl
theorem loc16 : X.loc 16 = [1] := by kernel_rfl
theorem loc17 : X.loc 17 = [1] := by kernel_rfl
theorem loc18 : X.loc 18 = [2, 3] := by kernel_rfl
theorem loc19 : X.loc 19 = [1] := by kernel_rfl
theorem loc20 : X.loc 20 = [2] := by kernel_rfl
theorem loc21 : X.loc 21 = [1] := by kernel_rfl
theorem loc22 : X.loc 22 = [2] := by kernel_rfl
theorem loc23 : X.loc 23 = [] := by kernel_rfl
theorem loc24 : X.loc 24 = [] := by kernel_rfl
theorem loc25 : X.loc 25 = [3, 8] := by kernel_rfl
theorem loc26 : X.loc 26 = [2, 7] := by kernel_rfl
theorem loc27 : X.loc 27 = [1] := by kernel_rfl
theorem loc28 : X.loc 28 = [] := by kernel_rfl
theorem loc29 : X.loc 29 = [2] := by kernel_rfl
theorem loc30 : X.loc 30 = [] := by kernel_rfl
theorem loc31 : X.loc 31 = [4, 5] := by kernel_rfl
theorem loc32 : X.loc 32 = [1, 2, 3] := by kernel_rfl
theorem loc33 : X.loc 33 = [] := by kernel_rfl
theorem loc34 : X.loc 34 = [3] := by kernel_rfl
theorem loc35 : X.loc 35 = [] := by kernel_rfl
theorem loc36 : X.loc 36 = [1] := by kernel_rfl
theorem loc37 : X.loc 37 = [2] := by kernel_rfl
theorem loc38 : X.loc 38 = [] := by kernel_rfl
theorem loc39 : X.loc 39 = [2, 3] := by kernel_rfl
theorem loc40 : X.loc 40 = [4, 5, 6] := by kernel_rfl
theorem loc41 : X.loc 41 = [] := by kernel_rfl
theorem loc42 : X.loc 42 = [2, 5] := by kernel_rfl
theorem loc43 : X.loc 43 = [3, 4] := by kernel_rfl
theorem loc44 : X.loc 44 = [3, 4, 13] := by kernel_rfl
theorem loc45 : X.loc 45 = [1, 2] := by kernel_rfl
theorem loc46 : X.loc 46 = [3, 4] := by kernel_rfl
theorem loc47 : X.loc 47 = [4, 5] := by kernel_rfl
theorem loc48 : X.loc 48 = [1, 2] := by kernel_rfl
theorem loc49 : X.loc 49 = [4, 10] := by kernel_rfl
theorem loc50 : X.loc 50 = [2, 3] := by kernel_rfl
theorem loc51 : X.loc 51 = [] := by kernel_rfl
theorem loc52 : X.loc 52 = [] := by kernel_rfl
theorem loc53 : X.loc 53 = [1, 2, 5] := by kernel_rfl
theorem loc54 : X.loc 54 = [] := by kernel_rfl
theorem loc55 : X.loc 55 = [2] := by kernel_rfl
theorem loc56 : X.loc 56 = [2, 3, 4] := by kernel_rfl
theorem loc57 : X.loc 57 = [2, 4] := by kernel_rfl
theorem loc58 : X.loc 58 = [] := by kernel_rfl
theorem loc59 : X.loc 59 = [2, 5] := by kernel_rfl
theorem loc60 : X.loc 60 = [] := by kernel_rfl
theorem loc61 : X.loc 61 = [4, 5] := by kernel_rfl
theorem loc62 : X.loc 62 = [2, 4, 5, 6, 7] := by kernel_rfl
theorem keep3_15 : X.keep 3 15 = [2, 7, 9, 12, 13, 14] := by kernel_rfl
theorem keep3_11 : X.keep 3 11 = [2, 7, 9, 12] := by kernel_rfl
theorem keep4_5 : X.keep 4 5 = [1, 2, 4, 5, 6] := by kernel_rfl
theorem keep5_24 : X.keep 5 24 = [2, 4, 7, 8] := by kernel_rfl
theorem keep10_3 : X.keep 10 3 = [0, 1, 5, 6] := by kernel_rfl
theorem keep11_7 : X.keep 11 7 = [8, 9] := by kernel_rfl
theorem keep15_3 : X.keep 15 3 = [1, 2, 3, 4] := by kernel_rfl
theorem keep18_4 : X.keep 18 4 = [2, 3, 5] := by kernel_rfl
theorem keep19_4 : X.keep 19 4 = [1, 3] := by kernel_rfl
theorem keep20_4 : X.keep 20 4 = [1, 2, 5] := by kernel_rfl
theorem keep21_5 : X.keep 21 5 = [1, 3, 4] := by kernel_rfl
theorem keep22_2 : X.keep 22 2 = [0, 2, 3] := by kernel_rfl
theorem keep25_8 : X.keep 25 8 = [1, 2, 7, 8, 9] := by kernel_rfl
theorem keep26_6 : X.keep 26 6 = [1, 4, 37, 38, 39] := by kernel_rfl
theorem keep27_8 : X.keep 27 8 = [1, 3, 4] := by kernel_rfl
theorem keep29_2 : X.keep 29 2 = [0, 2, 3] := by kernel_rfl
theorem keep31_3 : X.keep 31 3 = [0, 1, 4, 5, 6] := by kernel_rfl
theorem keep32_3 : X.keep 32 3 = [1, 2, 3, 4] := by kernel_rfl
theorem keep33_3 : X.keep 33 3 = [0, 1, 5, 6] := by kernel_rfl
theorem keep34_7 : X.keep 34 7 = [1, 3, 7, 8, 9, 10] := by kernel_rfl
theorem keep34_4 : X.keep 34 4 = [1, 3, 7] := by kernel_rfl
theorem keep34_1 : X.keep 34 1 = [1, 2, 3] := by kernel_rfl
theorem keep36_3 : X.keep 36 3 = [3, 6, 7] := by kernel_rfl
theorem keep39_2 : X.keep 39 2 = [0, 2, 3] := by kernel_rfl
theorem keep44_23 : X.keep 44 23 = [3, 4, 6, 8, 10, 11, 12] := by kernel_rfl
theorem keep48_2 : X.keep 48 2 = [1, 2, 4] := by kernel_rfl
theorem keep49_8 : X.keep 49 8 = [4, 7, 8, 9, 24] := by kernel_rfl
theorem keep50_3 : X.keep 50 3 = [2, 3, 6, 7, 8] := by kernel_rfl
theorem keep51_15 : X.keep 51 15 = [0, 5, 6] := by kernel_rfl
theorem keep51_7 : X.keep 51 7 = [0, 3, 33] := by kernel_rfl
theorem keep52_2 : X.keep 52 2 = [0, 3, 4] := by kernel_rfl
theorem keep53_3 : X.keep 53 3 = [1, 2, 3, 7, 8, 9] := by kernel_rfl
theorem keep56_2 : X.keep 56 2 = [2, 3, 4, 6] := by kernel_rfl
theorem keep59_2 : X.keep 59 2 = [0, 2, 4] := by kernel_rfl
theorem keep60_17 : X.keep 60 17 = [0, 6, 7] := by kernel_rfl
theorem keep61_3 : X.keep 61 3 = [1, 4, 5, 6] := by kernel_rfl
theorem pur0 : X.pur 0 = false := by kernel_rfl
theorem pur1 : X.pur 1 = false := by kernel_rfl
theorem pur2 : X.pur 2 = false := by kernel_rfl
theorem pur3 : X.pur 3 = false := by kernel_rfl
theorem pur4 : X.pur 4 = true := by kernel_rfl
theorem pur5 : X.pur 5 = true := by kernel_rfl
theorem pur6 : X.pur 6 = false := by kernel_rfl
theorem pur7 : X.pur 7 = false := by kernel_rfl
theorem pur8 : X.pur 8 = false := by kernel_rfl
theorem pur9 : X.pur 9 = false := by kernel_rfl
theorem pur10 : X.pur 10 = false := by kernel_rfl
theorem pur11 : X.pur 11 = false := by kernel_rfl
theorem pur12 : X.pur 12 = true := by kernel_rfl
theorem pur13 : X.pur 13 = true := by kernel_rfl
theorem pur14 : X.pur 14 = true := by kernel_rfl
theorem pur15 : X.pur 15 = true := by kernel_rfl
theorem pur16 : X.pur 16 = true := by kernel_rfl
theorem pur17 : X.pur 17 = true := by kernel_rfl
theorem pur18 : X.pur 18 = true := by kernel_rfl
theorem pur19 : X.pur 19 = false := by kernel_rfl
theorem pur20 : X.pur 20 = false := by kernel_rfl
theorem pur21 : X.pur 21 = false := by kernel_rfl
theorem pur22 : X.pur 22 = false := by kernel_rfl
theorem pur23 : X.pur 23 = false := by kernel_rfl
theorem pur24 : X.pur 24 = false := by kernel_rfl
theorem pur25 : X.pur 25 = true := by kernel_rfl
theorem pur26 : X.pur 26 = true := by kernel_rfl
theorem pur27 : X.pur 27 = true := by kernel_rfl
theorem pur28 : X.pur 28 = true := by kernel_rfl
theorem pur29 : X.pur 29 = false := by kernel_rfl
theorem pur30 : X.pur 30 = false := by kernel_rfl
theorem pur31 : X.pur 31 = false := by kernel_rfl
theorem pur32 : X.pur 32 = true := by kernel_rfl
theorem pur33 : X.pur 33 = true := by kernel_rfl
theorem pur34 : X.pur 34 = true := by kernel_rfl
theorem pur35 : X.pur 35 = true := by kernel_rfl
theorem pur36 : X.pur 36 = true := by kernel_rfl
theorem pur37 : X.pur 37 = true := by kernel_rfl
theorem pur38 : X.pur 38 = true := by kernel_rfl
theorem pur39 : X.pur 39 = false := by kernel_rfl
theorem pur40 : X.pur 40 = true := by kernel_rfl
theorem pur41 : X.pur 41 = true := by kernel_rfl
theorem pur42 : X.pur 42 = false := by kernel_rfl
theorem pur43 : X.pur 43 = false := by kernel_rfl
theorem pur44 : X.pur 44 = false := by kernel_rfl
theorem pur45 : X.pur 45 = false := by kernel_rfl
theorem pur46 : X.pur 46 = false := by kernel_rfl
theorem pur47 : X.pur 47 = false := by kernel_rfl
theorem pur48 : X.pur 48 = false := by kernel_rfl
theorem pur49 : X.pur 49 = true := by kernel_rfl
theorem pur50 : X.pur 50 = false := by kernel_rfl
theorem pur51 : X.pur 51 = false := by kernel_rfl
theorem pur52 : X.pur 52 = false := by kernel_rfl
theorem pur53 : X.pur 53 = true := by kernel_rfl
theorem pur54 : X.pur 54 = false := by kernel_rfl
theorem pur55 : X.pur 55 = false := by kernel_rfl
theorem pur56 : X.pur 56 = true := by kernel_rfl
theorem pur57 : X.pur 57 = false := by kernel_rfl
theorem pur58 : X.pur 58 = false := by kernel_rfl
theorem pur59 : X.pur 59 = false := by kernel_rfl
theorem pur60 : X.pur 60 = false := by kernel_rfl
theorem pur61 : X.pur 61 = true := by kernel_rfl
theorem pur62 : X.pur 62 = true := by kernel_rfl
theorem fun2 : X.P.funcs[2]? = some Try.f2 := Try.func2
theorem fun3 : X.P.funcs[3]? = some Try.f3 := Try.func3
theorem fun4 : X.P.funcs[4]? = some Try.f4 := Try.func4
theorem fun5 : X.P.funcs[5]? = some Try.f5 := Try.func5
theorem fun6 : X.P.funcs[6]? = some Try.f6 := Try.func6
theorem fun7 : X.P.funcs[7]? = some Try.f7 := Try.func7
theorem fun8 : X.P.funcs[8]? = some Try.f8 := Try.func8
theorem fun9 : X.P.funcs[9]? = some Try.f9 := Try.func9
theorem fun10 : X.P.funcs[10]? = some Try.f10 := Try.func10
theorem fun11 : X.P.funcs[11]? = some Try.f11 := Try.func11
theorem fun12 : X.P.funcs[12]? = some Try.f12 := Try.func12
theorem fun13 : X.P.funcs[13]? = some Try.f13 := Try.func13
theorem fun14 : X.P.funcs[14]? = some Try.f14 := Try.func14
theorem fun15 : X.P.funcs[15]? = some Try.f15 := Try.func15
theorem fun16 : X.P.funcs[16]? = some Try.f16 := Try.func16
theorem fun17 : X.P.funcs[17]? = some Try.f17 := Try.func17
theorem fun18 : X.P.funcs[18]? = some Try.f18 := Try.func18
theorem fun19 : X.P.funcs[19]? = some Try.f19 := Try.func19
theorem fun20 : X.P.funcs[20]? = some Try.f20 := Try.func20
theorem fun21 : X.P.funcs[21]? = some Try.f21 := Try.func21
theorem fun22 : X.P.funcs[22]? = some Try.f22 := Try.func22
theorem fun23 : X.P.funcs[23]? = some Try.f23 := Try.func23
theorem fun24 : X.P.funcs[24]? = some Try.f24 := Try.func24
theorem fun25 : X.P.funcs[25]? = some Try.f25 := Try.func25
theorem fun26 : X.P.funcs[26]? = some Try.f26 := Try.func26
theorem fun27 : X.P.funcs[27]? = some Try.f27 := Try.func27
theorem fun28 : X.P.funcs[28]? = some Try.f28 := Try.func28
theorem fun29 : X.P.funcs[29]? = some Try.f29 := Try.func29
theorem fun30 : X.P.funcs[30]? = some Try.f30 := Try.func30
theorem fun31 : X.P.funcs[31]? = some Try.f31 := Try.func31
theorem fun32 : X.P.funcs[32]? = some Try.f32 := Try.func32
theorem fun33 : X.P.funcs[33]? = some Try.f33 := Try.func33
theorem fun34 : X.P.funcs[34]? = some Try.f34 := Try.func34
theorem fun35 : X.P.funcs[35]? = some Try.f35 := Try.func35
theorem fun36 : X.P.funcs[36]? = some Try.f36 := Try.func36
theorem fun37 : X.P.funcs[37]? = some Try.f37 := Try.func37
theorem fun38 : X.P.funcs[38]? = some Try.f38 := Try.func38
theorem fun39 : X.P.funcs[39]? = some Try.f39 := Try.func39
theorem fun40 : X.P.funcs[40]? = some Try.f40 := Try.func40
theorem fun41 : X.P.funcs[41]? = some Try.f41 := Try.func41
theorem fun42 : X.P.funcs[42]? = some Try.f42 := Try.func42
theorem fun43 : X.P.funcs[43]? = some Try.f43 := Try.func43
theorem fun44 : X.P.funcs[44]? = some Try.f44 := Try.func44
theorem fun45 : X.P.funcs[45]? = some Try.f45 := Try.func45
theorem fun46 : X.P.funcs[46]? = some Try.f46 := Try.func46
theorem fun47 : X.P.funcs[47]? = some Try.f47 := Try.func47
theorem fun48 : X.P.funcs[48]? = some Try.f48 := Try.func48
theorem fun49 : X.P.funcs[49]? = some Try.f49 := Try.func49
theorem fun50 : X.P.funcs[50]? = some Try.f50 := Try.func50
theorem fun51 : X.P.funcs[51]? = some Try.f51 := Try.func51
theorem fun52 : X.P.funcs[52]? = some Try.f52 := Try.func52
theorem fun53 : X.P.funcs[53]? = some Try.f53 := Try.func53
theorem fun54 : X.P.funcs[54]? = some Try.f54 := Try.func54
theorem fun55 : X.P.funcs[55]? = some Try.f55 := Try.func55
theorem fun56 : X.P.funcs[56]? = some Try.f56 := Try.func56
theorem fun57 : X.P.funcs[57]? = some Try.f57 := Try.func57
theorem fun58 : X.P.funcs[58]? = some Try.f58 := Try.func58
theorem fun59 : X.P.funcs[59]? = some Try.f59 := Try.func59
theorem fun60 : X.P.funcs[60]? = some Try.f60 := Try.func60
theorem fun61 : X.P.funcs[61]? = some Try.f61 := Try.func61
theorem fun62 : X.P.funcs[62]? = some Try.f62 := Try.func62
theorem sz0 : sizeP X.P 0 = some 1 := by kernel_rfl
theorem by0 : bytesP X.P 0 = some 0 := by kernel_rfl
theorem ag0 : aggP X.P 0 = some false := by kernel_rfl
theorem sz1 : sizeP X.P 1 = some 1 := by kernel_rfl
theorem by1 : bytesP X.P 1 = some 8 := by kernel_rfl
theorem ag1 : aggP X.P 1 = some false := by kernel_rfl
theorem zr1 : zeroP X.P 1 = some (.nilFunc) := by kernel_rfl
theorem und2 : X.P.underlying 2 = some (.int .i64) := by kernel_rfl
theorem sz2 : sizeP X.P 2 = some 1 := by kernel_rfl
theorem by2 : bytesP X.P 2 = some 8 := by kernel_rfl
theorem ag2 : aggP X.P 2 = some false := by kernel_rfl
theorem zr2 : zeroP X.P 2 = some (.int .i64 0) := by kernel_rfl
theorem und3 : X.P.underlying 3 = some (.int .i64) := by kernel_rfl
theorem sz3 : sizeP X.P 3 = some 1 := by kernel_rfl
theorem by3 : bytesP X.P 3 = some 8 := by kernel_rfl
theorem ag3 : aggP X.P 3 = some false := by kernel_rfl
theorem zr3 : zeroP X.P 3 = some (.int .i64 0) := by kernel_rfl
theorem und4 : X.P.underlying 4 = some (.bool) := by kernel_rfl
theorem sz4 : sizeP X.P 4 = some 1 := by kernel_rfl
theorem by4 : bytesP X.P 4 = some 1 := by kernel_rfl
theorem ag4 : aggP X.P 4 = some false := by kernel_rfl
theorem zr4 : zeroP X.P 4 = some (.bool false) := by kernel_rfl
theorem und5 : X.P.underlying 5 = some (.int .u8) := by kernel_rfl
theorem sz5 : sizeP X.P 5 = some 1 := by kernel_rfl
theorem by5 : bytesP X.P 5 = some 1 := by kernel_rfl
theorem ag5 : aggP X.P 5 = some false := by kernel_rfl
theorem zr5 : zeroP X.P 5 = some (.int .u8 0) := by kernel_rfl
theorem und9 : X.P.underlying 9 = some (.string) := by kernel_rfl
theorem sz9 : sizeP X.P 9 = some 1 := by kernel_rfl
theorem by9 : bytesP X.P 9 = some 16 := by kernel_rfl
theorem ag9 : aggP X.P 9 = some false := by kernel_rfl
theorem zr9 : zeroP X.P 9 = some (.string ⟨#[]⟩) := by kernel_rfl
theorem und22 : X.P.underlying 22 = some (.slice 24) := by kernel_rfl
theorem sz22 : sizeP X.P 22 = some 1 := by kernel_rfl
theorem by22 : bytesP X.P 22 = some 24 := by kernel_rfl
theorem ag22 : aggP X.P 22 = some false := by kernel_rfl
theorem zr22 : zeroP X.P 22 = some (.slice none 0 0) := by kernel_rfl
theorem el22 : elemP X.P 22 = some 24 := by kernel_rfl
theorem sz24 : sizeP X.P 24 = some 3 := by kernel_rfl
theorem by24 : bytesP X.P 24 = some 40 := by kernel_rfl
theorem ag24 : aggP X.P 24 = some true := by kernel_rfl
theorem zr24 : zeroP X.P 24 = some (.agg #[.int .i64 0, .int .i64 0, .slice none 0 0]) := by kernel_rfl
theorem fl24_0 : fieldP X.P 24 0 = some (0, 3) := by kernel_rfl
theorem fl24_1 : fieldP X.P 24 1 = some (1, 3) := by kernel_rfl
theorem fl24_2 : fieldP X.P 24 2 = some (2, 22) := by kernel_rfl
theorem und25 : X.P.underlying 25 = some (.slice 40) := by kernel_rfl
theorem sz25 : sizeP X.P 25 = some 1 := by kernel_rfl
theorem by25 : bytesP X.P 25 = some 24 := by kernel_rfl
theorem ag25 : aggP X.P 25 = some false := by kernel_rfl
theorem zr25 : zeroP X.P 25 = some (.slice none 0 0) := by kernel_rfl
theorem el25 : elemP X.P 25 = some 40 := by kernel_rfl
theorem und26 : X.P.underlying 26 = some (.int .u64) := by kernel_rfl
theorem sz26 : sizeP X.P 26 = some 1 := by kernel_rfl
theorem by26 : bytesP X.P 26 = some 8 := by kernel_rfl
theorem ag26 : aggP X.P 26 = some false := by kernel_rfl
theorem zr26 : zeroP X.P 26 = some (.int .u64 0) := by kernel_rfl
theorem und28 : X.P.underlying 28 = some (.array 4 26) := by kernel_rfl
theorem sz28 : sizeP X.P 28 = some 4 := by kernel_rfl
theorem by28 : bytesP X.P 28 = some 32 := by kernel_rfl
theorem ag28 : aggP X.P 28 = some true := by kernel_rfl
theorem zr28 : zeroP X.P 28 = some (.agg #[.int .u64 0, .int .u64 0, .int .u64 0, .int .u64 0]) := by kernel_rfl
theorem und29 : X.P.underlying 29 = some (.slice 31) := by kernel_rfl
theorem sz29 : sizeP X.P 29 = some 1 := by kernel_rfl
theorem by29 : bytesP X.P 29 = some 24 := by kernel_rfl
theorem ag29 : aggP X.P 29 = some false := by kernel_rfl
theorem zr29 : zeroP X.P 29 = some (.slice none 0 0) := by kernel_rfl
theorem el29 : elemP X.P 29 = some 31 := by kernel_rfl
theorem sz31 : sizeP X.P 31 = some 6 := by kernel_rfl
theorem by31 : bytesP X.P 31 = some 64 := by kernel_rfl
theorem ag31 : aggP X.P 31 = some true := by kernel_rfl
theorem zr31 : zeroP X.P 31 = some (.agg #[.int .i64 0, .int .u64 0, .int .u64 0, .int .u64 0, .int .u64 0, .slice none 0 0]) := by kernel_rfl
theorem fl31_0 : fieldP X.P 31 0 = some (0, 3) := by kernel_rfl
theorem fl31_1 : fieldP X.P 31 1 = some (1, 28) := by kernel_rfl
theorem fl31_2 : fieldP X.P 31 2 = some (5, 29) := by kernel_rfl
theorem und36 : X.P.underlying 36 = some (.int .i64) := by kernel_rfl
theorem sz36 : sizeP X.P 36 = some 1 := by kernel_rfl
theorem by36 : bytesP X.P 36 = some 8 := by kernel_rfl
theorem ag36 : aggP X.P 36 = some false := by kernel_rfl
theorem zr36 : zeroP X.P 36 = some (.int .i64 0) := by kernel_rfl
theorem und40 : X.P.underlying 40 = some (.slice 5) := by kernel_rfl
theorem sz40 : sizeP X.P 40 = some 1 := by kernel_rfl
theorem by40 : bytesP X.P 40 = some 24 := by kernel_rfl
theorem ag40 : aggP X.P 40 = some false := by kernel_rfl
theorem zr40 : zeroP X.P 40 = some (.slice none 0 0) := by kernel_rfl
theorem el40 : elemP X.P 40 = some 5 := by kernel_rfl
theorem und48 : X.P.underlying 48 = some (.array 256 4) := by kernel_rfl
theorem sz48 : sizeP X.P 48 = some 256 := by kernel_rfl
theorem by48 : bytesP X.P 48 = some 256 := by kernel_rfl
theorem ag48 : aggP X.P 48 = some true := by kernel_rfl
theorem zr48 : zeroP X.P 48 = some (.agg (List.replicate 256 (.bool false : Value)).toArray) := by kernel_rfl
theorem und50 : X.P.underlying 50 = some (.array 3 3) := by kernel_rfl
theorem sz50 : sizeP X.P 50 = some 3 := by kernel_rfl
theorem by50 : bytesP X.P 50 = some 24 := by kernel_rfl
theorem ag50 : aggP X.P 50 = some true := by kernel_rfl
theorem zr50 : zeroP X.P 50 = some (.agg #[.int .i64 0, .int .i64 0, .int .i64 0]) := by kernel_rfl
theorem und54 : X.P.underlying 54 = some (.pointer 56) := by kernel_rfl
theorem sz54 : sizeP X.P 54 = some 1 := by kernel_rfl
theorem by54 : bytesP X.P 54 = some 8 := by kernel_rfl
theorem ag54 : aggP X.P 54 = some false := by kernel_rfl
theorem zr54 : zeroP X.P 54 = some (.pointer none) := by kernel_rfl
theorem sz56 : sizeP X.P 56 = some 5 := by kernel_rfl
theorem by56 : bytesP X.P 56 = some 48 := by kernel_rfl
theorem ag56 : aggP X.P 56 = some true := by kernel_rfl
theorem zr56 : zeroP X.P 56 = some (.agg #[.string ⟨#[]⟩, .int .i64 0, .int .i64 0, .int .i64 0, .int .i64 0]) := by kernel_rfl
theorem fl56_0 : fieldP X.P 56 0 = some (0, 9) := by kernel_rfl
theorem fl56_1 : fieldP X.P 56 1 = some (1, 3) := by kernel_rfl
theorem fl56_2 : fieldP X.P 56 2 = some (2, 3) := by kernel_rfl
theorem fl56_3 : fieldP X.P 56 3 = some (3, 36) := by kernel_rfl
theorem fl56_4 : fieldP X.P 56 4 = some (4, 3) := by kernel_rfl
theorem sz58 : sizeP X.P 58 = some 9 := by kernel_rfl
theorem by58 : bytesP X.P 58 = some 88 := by kernel_rfl
theorem ag58 : aggP X.P 58 = some true := by kernel_rfl
theorem zr58 : zeroP X.P 58 = some (.agg #[.int .i64 0, .int .u64 0, .int .u64 0, .int .u64 0, .int .u64 0, .slice none 0 0, .int .i64 0, .int .i64 0, .bool false]) := by kernel_rfl
theorem fl58_0 : fieldP X.P 58 0 = some (0, 31) := by kernel_rfl
theorem fl58_1 : fieldP X.P 58 1 = some (6, 3) := by kernel_rfl
theorem fl58_2 : fieldP X.P 58 2 = some (7, 3) := by kernel_rfl
theorem fl58_3 : fieldP X.P 58 3 = some (8, 4) := by kernel_rfl
theorem und62 : X.P.underlying 62 = some (.slice 4) := by kernel_rfl
theorem sz62 : sizeP X.P 62 = some 1 := by kernel_rfl
theorem by62 : bytesP X.P 62 = some 24 := by kernel_rfl
theorem ag62 : aggP X.P 62 = some false := by kernel_rfl
theorem zr62 : zeroP X.P 62 = some (.slice none 0 0) := by kernel_rfl
theorem el62 : elemP X.P 62 = some 4 := by kernel_rfl
theorem und64 : X.P.underlying 64 = some (.int .u64) := by kernel_rfl
theorem sz64 : sizeP X.P 64 = some 1 := by kernel_rfl
theorem by64 : bytesP X.P 64 = some 8 := by kernel_rfl
theorem ag64 : aggP X.P 64 = some false := by kernel_rfl
theorem zr64 : zeroP X.P 64 = some (.int .u64 0) := by kernel_rfl
theorem und68 : X.P.underlying 68 = some (.slice 58) := by kernel_rfl
theorem sz68 : sizeP X.P 68 = some 1 := by kernel_rfl
theorem by68 : bytesP X.P 68 = some 24 := by kernel_rfl
theorem ag68 : aggP X.P 68 = some false := by kernel_rfl
theorem zr68 : zeroP X.P 68 = some (.slice none 0 0) := by kernel_rfl
theorem el68 : elemP X.P 68 = some 58 := by kernel_rfl
theorem und87 : X.P.underlying 87 = some (.pointer 89) := by kernel_rfl
theorem sz87 : sizeP X.P 87 = some 1 := by kernel_rfl
theorem by87 : bytesP X.P 87 = some 8 := by kernel_rfl
theorem ag87 : aggP X.P 87 = some false := by kernel_rfl
theorem zr87 : zeroP X.P 87 = some (.pointer none) := by kernel_rfl
theorem sz89 : sizeP X.P 89 = some 2 := by kernel_rfl
theorem by89 : bytesP X.P 89 = some 24 := by kernel_rfl
theorem ag89 : aggP X.P 89 = some true := by kernel_rfl
theorem zr89 : zeroP X.P 89 = some (.agg #[.string ⟨#[]⟩, .int .i64 0]) := by kernel_rfl
theorem fl89_0 : fieldP X.P 89 0 = some (0, 9) := by kernel_rfl
theorem fl89_1 : fieldP X.P 89 1 = some (1, 3) := by kernel_rfl
/-- Facts on types and functions, all in one. -/
theorem fB : type_of% (And.intro sz0 (And.intro by0 (And.intro ag0 (And.intro sz1 (And.intro by1 (And.intro ag1 (And.intro zr1 (And.intro und2 (And.intro sz2 (And.intro by2 (And.intro ag2 (And.intro zr2 (And.intro und3 (And.intro sz3 (And.intro by3 (And.intro ag3 (And.intro zr3 (And.intro und4 (And.intro sz4 (And.intro by4 (And.intro ag4 (And.intro zr4 (And.intro und5 (And.intro sz5 (And.intro by5 (And.intro ag5 (And.intro zr5 (And.intro und9 (And.intro sz9 (And.intro by9 (And.intro ag9 (And.intro zr9 (And.intro und22 (And.intro sz22 (And.intro by22 (And.intro ag22 (And.intro zr22 (And.intro el22 (And.intro sz24 (And.intro by24 (And.intro ag24 (And.intro zr24 (And.intro fl24_0 (And.intro fl24_1 (And.intro fl24_2 (And.intro und25 (And.intro sz25 (And.intro by25 (And.intro ag25 (And.intro zr25 (And.intro el25 (And.intro und26 (And.intro sz26 (And.intro by26 (And.intro ag26 (And.intro zr26 (And.intro und28 (And.intro sz28 (And.intro by28 (And.intro ag28 (And.intro zr28 (And.intro und29 (And.intro sz29 (And.intro by29 (And.intro ag29 (And.intro zr29 (And.intro el29 (And.intro sz31 (And.intro by31 (And.intro ag31 (And.intro zr31 (And.intro fl31_0 (And.intro fl31_1 (And.intro fl31_2 (And.intro und36 (And.intro sz36 (And.intro by36 (And.intro ag36 (And.intro zr36 (And.intro und40 (And.intro sz40 (And.intro by40 (And.intro ag40 (And.intro zr40 (And.intro el40 (And.intro und48 (And.intro sz48 (And.intro by48 (And.intro ag48 (And.intro zr48 (And.intro und50 (And.intro sz50 (And.intro by50 (And.intro ag50 (And.intro zr50 (And.intro und54 (And.intro sz54 (And.intro by54 (And.intro ag54 (And.intro zr54 (And.intro sz56 (And.intro by56 (And.intro ag56 (And.intro zr56 (And.intro fl56_0 (And.intro fl56_1 (And.intro fl56_2 (And.intro fl56_3 (And.intro fl56_4 (And.intro sz58 (And.intro by58 (And.intro ag58 (And.intro zr58 (And.intro fl58_0 (And.intro fl58_1 (And.intro fl58_2 (And.intro fl58_3 (And.intro und62 (And.intro sz62 (And.intro by62 (And.intro ag62 (And.intro zr62 (And.intro el62 (And.intro und64 (And.intro sz64 (And.intro by64 (And.intro ag64 (And.intro zr64 (And.intro und68 (And.intro sz68 (And.intro by68 (And.intro ag68 (And.intro zr68 (And.intro el68 (And.intro und87 (And.intro sz87 (And.intro by87 (And.intro ag87 (And.intro zr87 (And.intro sz89 (And.intro by89 (And.intro ag89 (And.intro zr89 (And.intro fl89_0 (And.intro fl89_1 (And.intro loc2 (And.intro loc3 (And.intro loc4 (And.intro loc5 (And.intro loc6 (And.intro loc7 (And.intro loc8 (And.intro loc9 (And.intro loc10 (And.intro loc11 (And.intro loc12 (And.intro loc13 (And.intro loc14 (And.intro loc15 (And.intro loc16 (And.intro loc17 (And.intro loc18 (And.intro loc19 (And.intro loc20 (And.intro loc21 (And.intro loc22 (And.intro loc23 (And.intro loc24 (And.intro loc25 (And.intro loc26 (And.intro loc27 (And.intro loc28 (And.intro loc29 (And.intro loc30 (And.intro loc31 (And.intro loc32 (And.intro loc33 (And.intro loc34 (And.intro loc35 (And.intro loc36 (And.intro loc37 (And.intro loc38 (And.intro loc39 (And.intro loc40 (And.intro loc41 (And.intro loc42 (And.intro loc43 (And.intro loc44 (And.intro loc45 (And.intro loc46 (And.intro loc47 (And.intro loc48 (And.intro loc49 (And.intro loc50 (And.intro loc51 (And.intro loc52 (And.intro loc53 (And.intro loc54 (And.intro loc55 (And.intro loc56 (And.intro loc57 (And.intro loc58 (And.intro loc59 (And.intro loc60 (And.intro loc61 (loc62)))))))))))))))))))))))))))))))))))))))))))))))))))))))))))))))))))))))))))))))))))))))))))))))))))))))))))))))))))))))))))))))))))))))))))))))))))))))))))))))))))))))))))))))))))))))))))))))))))))))))))))) := And.intro sz0 (And.intro by0 (And.intro ag0 (And.intro sz1 (And.intro by1 (And.intro ag1 (And.intro zr1 (And.intro und2 (And.intro sz2 (And.intro by2 (And.intro ag2 (And.intro zr2 (And.intro und3 (And.intro sz3 (And.intro by3 (And.intro ag3 (And.intro zr3 (And.intro und4 (And.intro sz4 (And.intro by4 (And.intro ag4 (And.intro zr4 (And.intro und5 (And.intro sz5 (And.intro by5 (And.intro ag5 (And.intro zr5 (And.intro und9 (And.intro sz9 (And.intro by9 (And.intro ag9 (And.intro zr9 (And.intro und22 (And.intro sz22 (And.intro by22 (And.intro ag22 (And.intro zr22 (And.intro el22 (And.intro sz24 (And.intro by24 (And.intro ag24 (And.intro zr24 (And.intro fl24_0 (And.intro fl24_1 (And.intro fl24_2 (And.intro und25 (And.intro sz25 (And.intro by25 (And.intro ag25 (And.intro zr25 (And.intro el25 (And.intro und26 (And.intro sz26 (And.intro by26 (And.intro ag26 (And.intro zr26 (And.intro und28 (And.intro sz28 (And.intro by28 (And.intro ag28 (And.intro zr28 (And.intro und29 (And.intro sz29 (And.intro by29 (And.intro ag29 (And.intro zr29 (And.intro el29 (And.intro sz31 (And.intro by31 (And.intro ag31 (And.intro zr31 (And.intro fl31_0 (And.intro fl31_1 (And.intro fl31_2 (And.intro und36 (And.intro sz36 (And.intro by36 (And.intro ag36 (And.intro zr36 (And.intro und40 (And.intro sz40 (And.intro by40 (And.intro ag40 (And.intro zr40 (And.intro el40 (And.intro und48 (And.intro sz48 (And.intro by48 (And.intro ag48 (And.intro zr48 (And.intro und50 (And.intro sz50 (And.intro by50 (And.intro ag50 (And.intro zr50 (And.intro und54 (And.intro sz54 (And.intro by54 (And.intro ag54 (And.intro zr54 (And.intro sz56 (And.intro by56 (And.intro ag56 (And.intro zr56 (And.intro fl56_0 (And.intro fl56_1 (And.intro fl56_2 (And.intro fl56_3 (And.intro fl56_4 (And.intro sz58 (And.intro by58 (And.intro ag58 (And.intro zr58 (And.intro fl58_0 (And.intro fl58_1 (And.intro fl58_2 (And.intro fl58_3 (And.intro und62 (And.intro sz62 (And.intro by62 (And.intro ag62 (And.intro zr62 (And.intro el62 (And.intro und64 (And.intro sz64 (And.intro by64 (And.intro ag64 (And.intro zr64 (And.intro und68 (And.intro sz68 (And.intro by68 (And.intro ag68 (And.intro zr68 (And.intro el68 (And.intro und87 (And.intro sz87 (And.intro by87 (And.intro ag87 (And.intro zr87 (And.intro sz89 (And.intro by89 (And.intro ag89 (And.intro zr89 (And.intro fl89_0 (And.intro fl89_1 (And.intro loc2 (And.intro loc3 (And.intro loc4 (And.intro loc5 (And.intro loc6 (And.intro loc7 (And.intro loc8 (And.intro loc9 (And.intro loc10 (And.intro loc11 (And.intro loc12 (And.intro loc13 (And.intro loc14 (And.intro loc15 (And.intro loc16 (And.intro loc17 (And.intro loc18 (And.intro loc19 (And.intro loc20 (And.intro loc21 (And.intro loc22 (And.intro loc23 (And.intro loc24 (And.intro loc25 (And.intro loc26 (And.intro loc27 (And.intro loc28 (And.intro loc29 (And.intro loc30 (And.intro loc31 (And.intro loc32 (And.intro loc33 (And.intro loc34 (And.intro loc35 (And.intro loc36 (And.intro loc37 (And.intro loc38 (And.intro loc39 (And.intro loc40 (And.intro loc41 (And.intro loc42 (And.intro loc43 (And.intro loc44 (And.intro loc45 (And.intro loc46 (And.intro loc47 (And.intro loc48 (And.intro loc49 (And.intro loc50 (And.intro loc51 (And.intro loc52 (And.intro loc53 (And.intro loc54 (And.intro loc55 (And.intro loc56 (And.intro loc57 (And.intro loc58 (And.intro loc59 (And.intro loc60 (And.intro loc61 (loc62)))))))))))))))))))))))))))))))))))))))))))))))))))))))))))))))))))))))))))))))))))))))))))))))))))))))))))))))))))))))))))))))))))))))))))))))))))))))))))))))))))))))))))))))))))))))))))))))))))))))))))))
theorem bld31_0 (n1 : Int) : bldR X 31 (some [(0, .int .i64 n1)]) = some (.agg #[.int .i64 n1, .int .u64 0, .int .u64 0, .int .u64 0, .int .u64 0, .slice none 0 0]) := by kernel_rfl
theorem bsl29_1_0 (n1 : Int) (n2 : Int) (n3 : Int) (n4 : Int) (n5 : Int) (p6 : Option Addr) (m7 : Nat) (c8 : Nat) : bslR X 29 1 (some [(0, .agg #[.int .i64 n1, .int .u64 n2, .int .u64 n3, .int .u64 n4, .int .u64 n5, .slice p6 m7 c8])]) = some (6, [.int .i64 n1, .int .u64 n2, .int .u64 n3, .int .u64 n4, .int .u64 n5, .slice p6 m7 c8]) := by kernel_rfl
theorem bsl29_2_0_1 (n1 : Int) (n2 : Int) (n3 : Int) (n4 : Int) (n5 : Int) (p6 : Option Addr) (m7 : Nat) (c8 : Nat) (n9 : Int) (n10 : Int) (n11 : Int) (n12 : Int) (n13 : Int) (p14 : Option Addr) (m15 : Nat) (c16 : Nat) : bslR X 29 2 (some [(0, .agg #[.int .i64 n1, .int .u64 n2, .int .u64 n3, .int .u64 n4, .int .u64 n5, .slice p6 m7 c8]), (1, .agg #[.int .i64 n9, .int .u64 n10, .int .u64 n11, .int .u64 n12, .int .u64 n13, .slice p14 m15 c16])]) = some (6, [.int .i64 n1, .int .u64 n2, .int .u64 n3, .int .u64 n4, .int .u64 n5, .slice p6 m7 c8, .int .i64 n9, .int .u64 n10, .int .u64 n11, .int .u64 n12, .int .u64 n13, .slice p14 m15 c16]) := by kernel_rfl
theorem bld31_0_2 (n1 : Int) (p2 : Option Addr) (m3 : Nat) (c4 : Nat) : bldR X 31 (some [(0, .int .i64 n1), (2, .slice p2 m3 c4)]) = some (.agg #[.int .i64 n1, .int .u64 0, .int .u64 0, .int .u64 0, .int .u64 0, .slice p2 m3 c4]) := by kernel_rfl
theorem bld31_0_1 (n1 : Int) (n2 : Int) (n3 : Int) (n4 : Int) (n5 : Int) : bldR X 31 (some [(0, .int .i64 n1), (1, .agg #[.int .u64 n2, .int .u64 n3, .int .u64 n4, .int .u64 n5])]) = some (.agg #[.int .i64 n1, .int .u64 n2, .int .u64 n3, .int .u64 n4, .int .u64 n5, .slice none 0 0]) := by kernel_rfl
theorem bld50_0_1_2 (n1 : Int) (n2 : Int) (n3 : Int) : bldR X 50 (some [(0, .int .i64 n1), (1, .int .i64 n2), (2, .int .i64 n3)]) = some (.agg #[.int .i64 n1, .int .i64 n2, .int .i64 n3]) := by kernel_rfl
theorem bld31  : bldR X 31 (some []) = some (.agg #[.int .i64 0, .int .u64 0, .int .u64 0, .int .u64 0, .int .u64 0, .slice none 0 0]) := by kernel_rfl
theorem bld56_0 (s1 : ByteArray) : bldR X 56 (some [(0, .string s1)]) = some (.agg #[.string s1, .int .i64 0, .int .i64 0, .int .i64 0, .int .i64 0]) := by kernel_rfl
theorem bld28  : bldR X 28 (some []) = some (.agg #[.int .u64 0, .int .u64 0, .int .u64 0, .int .u64 0]) := by kernel_rfl
theorem bsl68_1_0 (n1 : Int) (n2 : Int) (n3 : Int) (n4 : Int) (n5 : Int) (p6 : Option Addr) (m7 : Nat) (c8 : Nat) (n9 : Int) (n10 : Int) (b11 : Bool) : bslR X 68 1 (some [(0, .agg #[.int .i64 n1, .int .u64 n2, .int .u64 n3, .int .u64 n4, .int .u64 n5, .slice p6 m7 c8, .int .i64 n9, .int .i64 n10, .bool b11])]) = some (9, [.int .i64 n1, .int .u64 n2, .int .u64 n3, .int .u64 n4, .int .u64 n5, .slice p6 m7 c8, .int .i64 n9, .int .i64 n10, .bool b11]) := by kernel_rfl
theorem bsl40_4_0_1_2_3 (n1 : Int) (n2 : Int) (n3 : Int) (n4 : Int) : bslR X 40 4 (some [(0, .int .u8 n1), (1, .int .u8 n2), (2, .int .u8 n3), (3, .int .u8 n4)]) = some (1, [.int .u8 n1, .int .u8 n2, .int .u8 n3, .int .u8 n4]) := by kernel_rfl
theorem bld58_0_1_2_3 (n1 : Int) (n2 : Int) (n3 : Int) (n4 : Int) (n5 : Int) (p6 : Option Addr) (m7 : Nat) (c8 : Nat) (n9 : Int) (n10 : Int) (b11 : Bool) : bldR X 58 (some [(0, .agg #[.int .i64 n1, .int .u64 n2, .int .u64 n3, .int .u64 n4, .int .u64 n5, .slice p6 m7 c8]), (1, .int .i64 n9), (2, .int .i64 n10), (3, .bool b11)]) = some (.agg #[.int .i64 n1, .int .u64 n2, .int .u64 n3, .int .u64 n4, .int .u64 n5, .slice p6 m7 c8, .int .i64 n9, .int .i64 n10, .bool b11]) := by kernel_rfl
theorem bsl40_1_0 (n1 : Int) : bslR X 40 1 (some [(0, .int .u8 n1)]) = some (1, [.int .u8 n1]) := by kernel_rfl
theorem bld58_3 (b1 : Bool) : bldR X 58 (some [(3, .bool b1)]) = some (.agg #[.int .i64 0, .int .u64 0, .int .u64 0, .int .u64 0, .int .u64 0, .slice none 0 0, .int .i64 0, .int .i64 0, .bool b1]) := by kernel_rfl
theorem bld58_0_1_2 (n1 : Int) (n2 : Int) (n3 : Int) (n4 : Int) (n5 : Int) (p6 : Option Addr) (m7 : Nat) (c8 : Nat) (n9 : Int) (n10 : Int) : bldR X 58 (some [(0, .agg #[.int .i64 n1, .int .u64 n2, .int .u64 n3, .int .u64 n4, .int .u64 n5, .slice p6 m7 c8]), (1, .int .i64 n9), (2, .int .i64 n10)]) = some (.agg #[.int .i64 n1, .int .u64 n2, .int .u64 n3, .int .u64 n4, .int .u64 n5, .slice p6 m7 c8, .int .i64 n9, .int .i64 n10, .bool false]) := by kernel_rfl
theorem bld58_1_2_3 (n1 : Int) (n2 : Int) (b3 : Bool) : bldR X 58 (some [(1, .int .i64 n1), (2, .int .i64 n2), (3, .bool b3)]) = some (.agg #[.int .i64 0, .int .u64 0, .int .u64 0, .int .u64 0, .int .u64 0, .slice none 0 0, .int .i64 n1, .int .i64 n2, .bool b3]) := by kernel_rfl
theorem bld89_0_1 (s1 : ByteArray) (n2 : Int) : bldR X 89 (some [(0, .string s1), (1, .int .i64 n2)]) = some (.agg #[.string s1, .int .i64 n2]) := by kernel_rfl
theorem bsl40_2_0_1 (n1 : Int) (n2 : Int) : bslR X 40 2 (some [(0, .int .u8 n1), (1, .int .u8 n2)]) = some (1, [.int .u8 n1, .int .u8 n2]) := by kernel_rfl
/-- What is built, all in one. -/
theorem bB : type_of% (And.intro @bld31_0 (And.intro @bsl29_1_0 (And.intro @bsl29_2_0_1 (And.intro @bld31_0_2 (And.intro @bld31_0_1 (And.intro @bld50_0_1_2 (And.intro @bld31 (And.intro @bld56_0 (And.intro @bld28 (And.intro @bsl68_1_0 (And.intro @bsl40_4_0_1_2_3 (And.intro @bld58_0_1_2_3 (And.intro @bsl40_1_0 (And.intro @bld58_3 (And.intro @bld58_0_1_2 (And.intro @bld58_1_2_3 (And.intro @bld89_0_1 (@bsl40_2_0_1)))))))))))))))))) := And.intro @bld31_0 (And.intro @bsl29_1_0 (And.intro @bsl29_2_0_1 (And.intro @bld31_0_2 (And.intro @bld31_0_1 (And.intro @bld50_0_1_2 (And.intro @bld31 (And.intro @bld56_0 (And.intro @bld28 (And.intro @bsl68_1_0 (And.intro @bsl40_4_0_1_2_3 (And.intro @bld58_0_1_2_3 (And.intro @bsl40_1_0 (And.intro @bld58_3 (And.intro @bld58_0_1_2 (And.intro @bld58_1_2_3 (And.intro @bld89_0_1 (@bsl40_2_0_1)))))))))))))))))
end Go.Proofs.Ytmgofjgfmcmceaa
end
section
namespace Go.Proofs.Ytmgofjgfmcmceaa
open Go.RowKit

section
variable {P : Program} {ty : TypeId} {x y : Operand} {k : IntKind} {a b : Int}
theorem bin_add : binR P .add ty x y (.int k a) (.int k b) = some (.int k (k.wrap (a + b))) := by cases k <;> rfl
theorem bin_sub : binR P .sub ty x y (.int k a) (.int k b) = some (.int k (k.wrap (a - b))) := by cases k <;> rfl
theorem bin_mul : binR P .mul ty x y (.int k a) (.int k b) = some (.int k (k.wrap (a * b))) := by cases k <;> rfl
theorem bin_eql : binR P .eql ty x y (.int k a) (.int k b) = some (.bool (decide (a = b))) := by cases k <;> rfl
theorem bin_neq : binR P .neq ty x y (.int k a) (.int k b) = some (.bool (!decide (a = b))) := by cases k <;> rfl
theorem bin_lss : binR P .lss ty x y (.int k a) (.int k b) = some (.bool (decide (a < b))) := by cases k <;> rfl
theorem bin_leq : binR P .leq ty x y (.int k a) (.int k b) = some (.bool (decide (a ≤ b))) := by cases k <;> rfl
theorem bin_gtr : binR P .gtr ty x y (.int k a) (.int k b) = some (.bool (decide (b < a))) := by cases k <;> rfl
theorem bin_geq : binR P .geq ty x y (.int k a) (.int k b) = some (.bool (decide (b ≤ a))) := by cases k <;> rfl
theorem bin_quo (h : b ≠ 0) : binR P .quo ty x y (.int k a) (.int k b) = some (.int k (k.wrap (a.tdiv b))) := by
  cases k <;> (unfold binR binS; simp only [isScal, Bool.and_self, if_true, eqGuard, Go.binOp, Op.intDiv, h, if_false, ne_eq, not_true_eq_false]; rfl)
theorem bin_rem (h : b ≠ 0) : binR P .rem ty x y (.int k a) (.int k b) = some (.int k (a.tmod b)) := by
  cases k <;> (unfold binR binS; simp only [isScal, Bool.and_self, if_true, eqGuard, Go.binOp, Op.intDiv, h, if_false, ne_eq, not_true_eq_false]; rfl)
theorem bin_shl {k2 : IntKind} (h : 0 ≤ b) : binR P .shl ty x y (.int k a) (.int k2 b) = some (.int k (k.wrap (a * 2 ^ (min b.toNat k.bits)))) := by
  have h' : ¬ b < 0 := by omega
  cases k <;> cases k2 <;> (unfold binR binS; simp only [isScal, Bool.and_self, if_true, eqGuard, Go.binOp, Op.shift, h', if_false]; rfl)
theorem bin_shr {k2 : IntKind} (h : 0 ≤ b) : binR P .shr ty x y (.int k a) (.int k2 b) = some (.int k (a.fdiv (2 ^ (min b.toNat k.bits)))) := by
  have h' : ¬ b < 0 := by omega
  cases k <;> cases k2 <;> (unfold binR binS; simp only [isScal, Bool.and_self, if_true, eqGuard, Go.binOp, Op.shift, h', if_false]; rfl)
/-- Bits. -/
def ibit (op : BinOp) (k : IntKind) (a b : Int) : Int :=
  let x := BitVec.ofInt k.bits a
  let y := BitVec.ofInt k.bits b
  match op with
  | .and => k.wrap (x &&& y).toNat
  | .or => k.wrap (x ||| y).toNat
  | .xor => k.wrap (x ^^^ y).toNat
  | _ => k.wrap (x &&& ~~~y).toNat
theorem bin_and : binR P .and ty x y (.int k a) (.int k b) = some (.int k (ibit .and k a b)) := by cases k <;> rfl
theorem bin_or : binR P .or ty x y (.int k a) (.int k b) = some (.int k (ibit .or k a b)) := by cases k <;> rfl
theorem bin_xor : binR P .xor ty x y (.int k a) (.int k b) = some (.int k (ibit .xor k a b)) := by cases k <;> rfl
theorem bin_seql {s u : ByteArray} : binR P .eql ty x y (.string s) (.string u) = some (.bool (s.toList == u.toList)) := rfl
theorem bin_sneq {s u : ByteArray} : binR P .neq ty x y (.string s) (.string u) = some (.bool (!(s.toList == u.toList))) := rfl
theorem bin_sadd {s u : ByteArray} (h : s.size + u.size ≤ 9223372036854775807) : binR P .add ty x y (.string s) (.string u) = some (.string (s ++ u)) := by
  have h' : ¬ (((s.size + u.size : Nat) : Int) > IntKind.i64.max) := by
    have : IntKind.i64.max = 9223372036854775807 := by decide
    omega
  unfold binR binS
  simp only [isScal, Bool.and_self, if_true, eqGuard, Go.binOp, Op.stringOp, h', if_false]
  rfl
theorem un_not {b : Bool} : unR P .not (.bool b) = some (.bool (!b)) := rfl
theorem wantG_none {t : List TV} : wantG t none = some true := rfl
theorem gres_none {ops : Array Oper} {dst : Option Tmp} {op : Op} {ty : TypeId} {pos : String} {af : Array Edge} : gres ops ⟨dst, op, ty, pos, af, none⟩ = none := rfl
theorem gres_some {ops : Array Oper} {dst : Option Tmp} {op : Op} {ty : TypeId} {pos : String} {af : Array Edge} {j : Nat} {w : Bool} : gres ops ⟨dst, op, ty, pos, af, some (j, w)⟩ = some ((ops[j]?).bind (·.dst), w) := rfl
theorem plOk_none {X : Ctx} {f : FuncId} {n0 : Nat} {t : List TV} {o : Oper} : plOk X f n0 t o none = true := rfl
theorem putT_some {t : List TV} {d : Nat} {v : TV} : putT t (some d) v = t.set d v := rfl
theorem putT_none {t : List TV} {v : TV} : putT t none v = t := rfl
theorem gits_eq {l : List Oper} : gits l.toArray = l.map fun o => ⟨o, gres l.toArray o, none⟩ := rfl
end
end Go.Proofs.Ytmgofjgfmcmceaa
end
section
namespace Go.Proofs.Ytmgofjgfmcmceaa
open Go.RowKit

def cvI : Option TypeDesc → Option TypeDesc → Option Value → Option Value
  | some (.int _), some (.int k), some (.int _ n) => some (.int k (k.wrap n))
  | _, _, _ => none
def cvG (r : Option (TV × List TV × Hp)) (t : List TV) (H : Hp) : Option Value → Option (TV × List TV × Hp)
  | some v => some (.val v, t, H)
  | none => r
theorem cvG_some {r : Option (TV × List TV × Hp)} {t : List TV} {H : Hp} {v : Value} : cvG r t H (some v) = some (.val v, t, H) := rfl

section
variable {X : Ctx} {f : FuncId} {lim n0 : Nat} {Q : List TV → Hp → Prop} {k : List It} {t : List TV} {H : Hp} {l : List GI}
variable {dst : Option Tmp} {ty : TypeId} {pos : String} {af : Array Edge} {gu : Option (Nat × Bool)} {g : Option (Option Tmp × Bool)} {dr : Option (List Nat × Bool × Bool)}
theorem exe_conv {s d : TypeId} {x : Operand} : EXE X f lim n0 Q k ⟨⟨dst, .convert s d x, ty, pos, af, gu⟩, g, dr⟩ l t H = FR X f lim n0 Q k ⟨⟨dst, .convert s d x, ty, pos, af, gu⟩, g, dr⟩ l t (cvG (stepOp X f lim (fun _ _ _ => none) t H ⟨dst, .convert s d x, ty, pos, af, gu⟩) t H (cvI (X.P.underlying s) (X.P.underlying d) (evv X t x))) := by
  refine EXE_r fun call => ?_
  cases hc : cvI (X.P.underlying s) (X.P.underlying d) (evv X t x) with
  | none => rfl
  | some v =>
    simp only [cvG]
    unfold cvI at hc
    split at hc
    · rename_i k0 k1 k2 n h1 h2 h3
      simp only [Option.some.injEq] at hc
      subst hc
      have h4 : rho X t x = .int k2 n := by unfold rho; rw [h3]; rfl
      simp only [stepOp, h3, isScal, if_true]
      have : pureNext X.P (execOp (rho X t) ⟨dst, .convert s d x, ty, pos, af, gu⟩) = some (.int k1 (k1.wrap n)) := by
        unfold pureNext
        have : pureRun X.P (execOp (rho X t) ⟨dst, .convert s d x, ty, pos, af, gu⟩) = some (.value (.int k1 (k1.wrap n))) := by
          simp only [execOp, h4, convert, Go.underlying, Go.program, bind, Sem.bind, pureRun, h1, h2, pure, Conv.intToInt]
        rw [this]; rfl
      rw [this]; rfl
    · cases hc

theorem exe_callv {x : Operand} {args : Array Operand} {at' : Array TypeId} : EXE X f lim n0 Q k ⟨⟨dst, .call ⟨.value x, args, at'⟩, ty, pos, af, gu⟩, g, dr⟩ l t H = CL X f lim n0 Q k ⟨⟨dst, .call ⟨.value x, args, at'⟩, ty, pos, af, gu⟩, g, dr⟩ l t H (evv X t x) (args.toList.mapM (evv X t)) := exe_call rfl
theorem exe_lenv {x : Operand} {at' : TypeId} : EXE X f lim n0 Q k ⟨⟨dst, .call ⟨.builtin .len, #[x], #[at']⟩, ty, pos, af, gu⟩, g, dr⟩ l t H = SV X f lim n0 Q k ⟨⟨dst, .call ⟨.builtin .len, #[x], #[at']⟩, ty, pos, af, gu⟩, g, dr⟩ l t H ((evv X t x).bind fun v => lenR X v (X.P.underlying at')) := exe_len (at' := #[]) rfl rfl
def maxV (P : Program) (v u : Value) : Option Value := if isScal v && isScal u then pureNext P (do let r ← Builtin.max_ #[] 0 #[v, u]; pure (.value r)) else none
theorem max_int {P : Program} {k : IntKind} {a b : Int} : maxV P (.int k a) (.int k b) = some (.int k (max a b)) := by
  have e : max a b = (if b > a then b else a) := by rw [Int.max_def]; split <;> split <;> omega
  rw [e]
  unfold maxV
  simp only [isScal, Bool.and_self, if_true]
  cases k <;> rfl
theorem evs_evv (X : Ctx) (t : List TV) (x : Operand) : evs X t x = (evv X t x).bind fun v => if isScal v then some v else none := by
  unfold evs evv
  cases ev X t x <;> rfl
theorem exe_max {x y : Operand} {at' : Array TypeId} : EXE X f lim n0 Q k ⟨⟨dst, .call ⟨.builtin .max, #[x, y], at'⟩, ty, pos, af, gu⟩, g, dr⟩ l t H = SV X f lim n0 Q k ⟨⟨dst, .call ⟨.builtin .max, #[x, y], at'⟩, ty, pos, af, gu⟩, g, dr⟩ l t H ((evv X t x).bind fun v => (evv X t y).bind fun u => maxV X.P v u) := by
  rw [SV_FR]
  refine EXE_r fun call => ?_
  simp only [stepOp]
  have e : ([x, y].all fun z => (evs X t z).isSome) = ((evs X t x).isSome && (evs X t y).isSome) := by simp
  rw [e, evs_evv, evs_evv]
  cases hx : evv X t x with
  | none => rfl
  | some v =>
    cases hy : evv X t y with
    | none => simp
    | some u =>
      have h1 : rho X t x = v := by unfold rho; rw [hx]; rfl
      have h2 : rho X t y = u := by unfold rho; rw [hy]; rfl
      simp only [Option.bind_some, maxV]
      have e2 : execOp (rho X t) ⟨dst, .call ⟨.builtin .max, #[x, y], at'⟩, ty, pos, af, gu⟩ = (do let r ← Builtin.max_ #[] 0 #[v, u]; pure (.value r)) := by
        have e3 : (#[x, y] : Array Operand).map (rho X t) = #[v, u] := by simp [h1, h2]
        simp only [execOp, resolve, e3, bind, Sem.bind, pure, Go.invoke, Go.builtin]
        rfl
      rw [e2]
      by_cases s1 : isScal v = true <;> by_cases s2 : isScal u = true <;> simp [s1, s2]
theorem call_eq {g : FuncId} {vs : List Value} {R : Value → Hp → Prop} {n : Nat} {v : Value} {H1 : Hp} (h : execCall X n lim g vs H = some (v, H1)) (hR : R v H1) : CallEx X lim g vs H R := ⟨n, v, H1, h, hR⟩

theorem gitsD_cons {ops : Array Oper} {o : Oper} {os : List Oper} {d : List Nat × Bool × Bool} {ds : List (List Nat × Bool × Bool)} : gitsD ops (o :: os) (d :: ds) = ⟨o, gres ops o, some d⟩ :: gitsD ops os ds := rfl
theorem gitsD_nil {ops : Array Oper} {ds : List (List Nat × Bool × Bool)} : gitsD ops [] ds = [] := rfl
theorem FIN_draw {o : Oper} {d : List Nat × Bool × Bool} {t1 : List TV} {H1 : Hp} {x : TV} : FIN X f lim n0 Q k ⟨o, g, some d⟩ l t t1 H1 x = (putOk d.1 t o.dst x = true ∧ OPS X f lim n0 Q k l (putT t1 o.dst x) H1) := rfl

def strIx (s : ByteArray) (i : Int) : Option Value := (if 0 ≤ i then s[i.toNat]? else none).map fun b => .int .u8 b.toNat
def idxV (X : Ctx) : Option TypeDesc → Option Value → Option Int → Option Value
  | some .string, some (.string s), some i => strIx s i
  | some (.array len e), some (.agg cs), some i => (sizeP X.P e).bind fun es => bif inB i len then ldv X.P e cs.toList (i.toNat * es) else none
  | _, _, _ => none
theorem bounds_none {α β : Type} (P : Program) (k' : IntKind) (x y : Int) (c : BoundsCode) (h : α → Sem β) : pureRun P (Sem.bind (boundsPanic k' x y c) h) = none := by
  unfold boundsPanic
  by_cases hc : (k' != .u64 && 0 ≤ x && x ≤ 31) = true
  · simp only [hc, if_true]; rfl
  · simp only [hc]; rfl
theorem exe_index {ty1 : TypeId} {x ix : Operand} : EXE X f lim n0 Q k ⟨⟨dst, .index ty1 x ix, ty, pos, af, gu⟩, g, dr⟩ l t H = SV X f lim n0 Q k ⟨⟨dst, .index ty1 x ix, ty, pos, af, gu⟩, g, dr⟩ l t H (idxV X (X.P.underlying ty1) (evv X t x) ((evv X t ix).bind intOf?)) := by
  rw [SV_FR]
  refine EXE_r fun call => ?_
  simp only [stepOp]
  cases hx : evv X t x with
  | none => cases X.P.underlying ty1 with
    | none => rfl
    | some d => cases d <;> rfl
  | some v =>
    cases hi : (evv X t ix).bind intOf? with
    | none => cases X.P.underlying ty1 with
      | none => cases v <;> rfl
      | some d => cases d <;> cases v <;> rfl
    | some i =>
      cases v with
      | string s =>
        have h1 : rho X t x = .string s := by unfold rho; rw [hx]; rfl
        have h2 : ∃ k, rho X t ix = .int k i := by
          cases hv : evv X t ix with
          | none => rw [hv] at hi; cases hi
          | some u =>
            rw [hv] at hi
            cases u with
            | int k n => simp only [Option.bind_some, intOf?, Option.some.injEq] at hi; subst hi; exact ⟨k, by unfold rho; rw [hv]; rfl⟩
            | _ => cases hi
        obtain ⟨k', h2⟩ := h2
        have : pureNext X.P (execOp (rho X t) ⟨dst, .index ty1 x ix, ty, pos, af, gu⟩) = idxV X (X.P.underlying ty1) (some (.string s)) (some i) := by
          unfold pureNext
          simp only [execOp, h1, h2, Instr.index, asIntOf, Go.underlying, Go.program, bind, Sem.bind, pureRun, pure]
          generalize X.P.underlying ty1 = d
          cases d with
          | none => rfl
          | some d =>
            cases d with
            | string =>
              by_cases h0 : 0 ≤ i
              · simp only [idxV, strIx, Sem.bind, h0, if_true]
                cases s[i.toNat]? with
                | none => simp only [bounds_none]; rfl
                | some b => rfl
              · simp only [idxV, strIx, Sem.bind, h0, if_false, bounds_none]
                rfl
            | _ => rfl
        simp only [this]
      | agg cs =>
        simp only [idxV]
        generalize X.P.underlying ty1 = d
        cases d with
        | none => rfl
        | some d =>
          cases d with
          | array len e =>
            simp only
            cases sizeP X.P e with
            | none => rfl
            | some es => simp only [Option.bind_some]; cases inB i len <;> rfl
          | _ => rfl
      | _ => cases X.P.underlying ty1 with
        | none => rfl
        | some d => cases d <;> rfl

def resL : Option (List Value) → Option Value
  | some [v] => some v
  | some vs => if vs.all (fun v => match v with | .tuple _ => false | _ => true) then some (.tuple vs.toArray) else none
  | none => none
theorem resultsA_eq {P : Program} {fn : Func} {rs : List ResultVar} (h : fn.results = rs.toArray) (t : List TV) : resultsA P fn t = resL (rs.mapM (resOf P t)) := by
  unfold resultsA resL
  rw [h]
  rfl
theorem ret_of {fn : Func} {rs : List ResultVar} {R : Value → Hp → Prop} {v : Value} (h : fn.results = rs.toArray) (hv : resL (rs.mapM (resOf X.P t)) = some v) (hR : R v H) : ∃ v, resultsA X.P fn t = some v ∧ R v H := ⟨v, by rw [resultsA_eq h]; exact hv, hR⟩
end
/-- What a round begins with, slot by slot. -/
def clrF (ks : List Nat) : Nat → List TV → List TV
  | _, [] => []
  | i, x :: t => (bif ks.contains i then x else .undef) :: clrF ks (i + 1) t
theorem clr_eq (ks : List Nat) (t : List TV) : clr ks t = clrF ks 0 t := by
  have : ∀ (t : List TV) (i : Nat), (t.zipIdx i).map (fun p => if ks.contains p.2 then p.1 else .undef) = clrF ks i t := by
    intro t
    induction t with
    | nil => intro i; rfl
    | cons x t ih =>
      intro i
      simp only [List.zipIdx_cons, List.map_cons, clrF, ih]
      cases ks.contains i <;> rfl
  exact this t 0
theorem clrF_cons {ks : List Nat} {i : Nat} {x : TV} {t : List TV} : clrF ks i (x :: t) = (bif ks.contains i then x else .undef) :: clrF ks (i + 1) t := rfl
theorem clrF_nil {ks : List Nat} {i : Nat} : clrF ks i [] = [] := rfl
theorem run_loopk {X : Ctx} {f : FuncId} {lim : Nat} {Q : List TV → Hp → Prop} {k : List It} {c b : Code} {t : List TV} {H : Hp} {ks : List Nat} (h : c = .loop b) (hk : X.keep f (firstRegion b) = ks) (hr : RUN X f lim Q (.lp b :: k) b (clrF ks 0 t) H) : RUN X f lim Q k c t H := by
  refine run_loop h ?_
  rw [hk, clr_eq]
  exact hr

/-- Rules, all in one. -/
theorem wB : type_of% (And.intro @gres_none (And.intro @gres_some (And.intro @OPS_cons (And.intro @OPS_nil (And.intro @wantG_none (And.intro @plOk_none (And.intro @exe_move (And.intro @exe_assign (And.intro @exe_pick (And.intro @exe_bin (And.intro @exe_un (And.intro @exe_load (And.intro @exe_store (And.intro @exe_alloc (And.intro @exe_box (And.intro @exe_nilCheck (And.intro @exe_fieldAddr (And.intro @exe_field (And.intro @exe_indexAddr (And.intro @exe_extract (And.intro @exe_conv (And.intro @exe_max (And.intro @max_int (And.intro @exe_index (And.intro @gitsD_cons (And.intro @gitsD_nil (And.intro @FIN_draw (And.intro @exe_callv (And.intro @exe_lenv (And.intro @exe_build (And.intro @exe_buildSlice (And.intro @ofV_some (And.intro @FIN_plain (And.intro @FR_some (And.intro @SV_some (And.intro @CL_some (And.intro @cvG_some (And.intro @putT_some (And.intro @putT_none (And.intro @bin_add (And.intro @bin_sub (And.intro @bin_mul (And.intro @bin_eql (And.intro @bin_neq (And.intro @bin_lss (And.intro @bin_leq (And.intro @bin_gtr (And.intro @bin_geq (And.intro @bin_and (And.intro @bin_or (And.intro @bin_xor (And.intro @bin_seql (And.intro @bin_sneq (And.intro @un_not (And.intro @POP_code (And.intro @POP_lp (And.intro @POP_blk (@gits_eq)))))))))))))))))))))))))))))))))))))))))))))))))))))))))) := And.intro @gres_none (And.intro @gres_some (And.intro @OPS_cons (And.intro @OPS_nil (And.intro @wantG_none (And.intro @plOk_none (And.intro @exe_move (And.intro @exe_assign (And.intro @exe_pick (And.intro @exe_bin (And.intro @exe_un (And.intro @exe_load (And.intro @exe_store (And.intro @exe_alloc (And.intro @exe_box (And.intro @exe_nilCheck (And.intro @exe_fieldAddr (And.intro @exe_field (And.intro @exe_indexAddr (And.intro @exe_extract (And.intro @exe_conv (And.intro @exe_max (And.intro @max_int (And.intro @exe_index (And.intro @gitsD_cons (And.intro @gitsD_nil (And.intro @FIN_draw (And.intro @exe_callv (And.intro @exe_lenv (And.intro @exe_build (And.intro @exe_buildSlice (And.intro @ofV_some (And.intro @FIN_plain (And.intro @FR_some (And.intro @SV_some (And.intro @CL_some (And.intro @cvG_some (And.intro @putT_some (And.intro @putT_none (And.intro @bin_add (And.intro @bin_sub (And.intro @bin_mul (And.intro @bin_eql (And.intro @bin_neq (And.intro @bin_lss (And.intro @bin_leq (And.intro @bin_gtr (And.intro @bin_geq (And.intro @bin_and (And.intro @bin_or (And.intro @bin_xor (And.intro @bin_seql (And.intro @bin_sneq (And.intro @un_not (And.intro @POP_code (And.intro @POP_lp (And.intro @POP_blk (@gits_eq)))))))))))))))))))))))))))))))))))))))))))))))))))))))))
/-- Rules of lists and the like, all in one. -/
theorem lB : type_of% (And.intro @List.map_cons.{0,0} (And.intro @List.map_nil.{0,0} (And.intro @List.set_cons_zero.{0} (And.intro @List.set_cons_succ.{0} (And.intro @List.getD_cons_zero.{0} (And.intro @List.getD_cons_succ.{0} (And.intro @Option.bind_some.{0,0} (And.intro @Option.map_some.{0,0} (And.intro @List.all_cons.{0} (And.intro @List.all_nil.{0} (And.intro @List.length_cons.{0} (And.intro @List.length_nil.{0} (And.intro @List.getElem?_cons_zero.{0} (And.intro @List.getElem?_cons_succ.{0} (And.intro @List.drop_succ_cons.{0} (And.intro @List.drop_zero.{0} (And.intro @List.take_succ_cons.{0} (And.intro @List.take_zero.{0} (And.intro @List.nil_append.{0} (And.intro @List.cons_append.{0} (And.intro @Bool.and_self (And.intro @true_and (And.intro @Bool.or_false (And.intro @Bool.false_or (And.intro @Bool.or_self (And.intro @and_self (And.intro @and_true (And.intro @Option.isSome_some.{0} (And.intro Nat.zero_add (And.intro Nat.add_zero (And.intro @Bool.true_or (And.intro @Bool.or_true (And.intro @Bool.true_and (And.intro @Bool.and_true (And.intro @Bool.false_and (And.intro @Bool.and_false (And.intro @Bool.not_true (And.intro @Bool.not_false (And.intro @cond_true.{1} (And.intro @cond_false.{1} (And.intro Nat.mul_one (And.intro Nat.one_mul (And.intro @Int.toNat_natCast (Nat.le_refl)))))))))))))))))))))))))))))))))))))))))))) := And.intro @List.map_cons.{0,0} (And.intro @List.map_nil.{0,0} (And.intro @List.set_cons_zero.{0} (And.intro @List.set_cons_succ.{0} (And.intro @List.getD_cons_zero.{0} (And.intro @List.getD_cons_succ.{0} (And.intro @Option.bind_some.{0,0} (And.intro @Option.map_some.{0,0} (And.intro @List.all_cons.{0} (And.intro @List.all_nil.{0} (And.intro @List.length_cons.{0} (And.intro @List.length_nil.{0} (And.intro @List.getElem?_cons_zero.{0} (And.intro @List.getElem?_cons_succ.{0} (And.intro @List.drop_succ_cons.{0} (And.intro @List.drop_zero.{0} (And.intro @List.take_succ_cons.{0} (And.intro @List.take_zero.{0} (And.intro @List.nil_append.{0} (And.intro @List.cons_append.{0} (And.intro @Bool.and_self (And.intro @true_and (And.intro @Bool.or_false (And.intro @Bool.false_or (And.intro @Bool.or_self (And.intro @and_self (And.intro @and_true (And.intro @Option.isSome_some.{0} (And.intro Nat.zero_add (And.intro Nat.add_zero (And.intro @Bool.true_or (And.intro @Bool.or_true (And.intro @Bool.true_and (And.intro @Bool.and_true (And.intro @Bool.false_and (And.intro @Bool.and_false (And.intro @Bool.not_true (And.intro @Bool.not_false (And.intro @cond_true.{1} (And.intro @cond_false.{1} (And.intro Nat.mul_one (And.intro Nat.one_mul (And.intro @Int.toNat_natCast (Nat.le_refl)))))))))))))))))))))))))))))))))))))))))))
end Go.Proofs.Ytmgofjgfmcmceaa
end
section
namespace Go.Proofs.Ytmgofjgfmcmceaa
open Go.RowKit
def gitsG : List Oper → List (Option (Option Tmp × Bool)) → List GI
  | o :: l, g :: gs => ⟨o, g, none⟩ :: gitsG l gs
  | _, _ => []
def gitsGD : List Oper → List (Option (Option Tmp × Bool)) → List (List Nat × Bool × Bool) → List GI
  | o :: l, g :: gs, d :: ds => ⟨o, g, some d⟩ :: gitsGD l gs ds
  | _, _, _ => []
theorem gits_G (ops : Array Oper) : gits ops = gitsG ops.toList (ops.toList.map (gres ops)) := by
  unfold gits
  generalize ops.toList = l
  induction l with
  | nil => rfl
  | cons o l ih => simp only [List.map_cons, gitsG, ih]
theorem gitsD_G (ops : Array Oper) (ds : List (List Nat × Bool × Bool)) : gitsD ops ops.toList ds = gitsGD ops.toList (ops.toList.map (gres ops)) ds := by
  generalize ops.toList = l
  induction l generalizing ds with
  | nil => rfl
  | cons o l ih => cases ds with
    | nil => rfl
    | cons d ds => simp only [gitsD, List.map_cons, gitsGD, ih]
section
variable {X : Ctx} {f : FuncId} {lim n0 : Nat} {Q : List TV → Hp → Prop} {k : List It} {t : List TV} {H : Hp} {c : Code}
theorem run_regionG {id : Nat} {ops : Array Oper} {gs : List (Option (Option Tmp × Bool))} (h : c = .region id ops false) (hg : ops.toList.map (gres ops) = gs) (hr : OPS X f lim 0 Q k (gitsG ops.toList gs) t H) : RUN X f lim Q k c t H := by
  refine run_region h ?_
  rw [gits_G, hg]; exact hr
theorem run_drawG {id : Nat} {ops : Array Oper} {ds : List (List Nat × Bool × Bool)} {gs : List (Option (Option Tmp × Bool))} (h : c = .region id ops true) (hd : drawOk X f ops = true) (hs : drs X f ops = ds) (hg : ops.toList.map (gres ops) = gs) (hr : OPS X f lim H.length Q k (gitsGD ops.toList gs ds) t H) : RUN X f lim Q k c t H := by
  refine run_draw h hd hs ?_
  rw [gitsD_G, hg]; exact hr
end
theorem gitsG_cons {o : Oper} {l : List Oper} {g : Option (Option Tmp × Bool)} {gs : List (Option (Option Tmp × Bool))} : gitsG (o :: l) (g :: gs) = ⟨o, g, none⟩ :: gitsG l gs := rfl
theorem gitsG_nil : gitsG [] [] = [] := rfl
theorem gitsGD_cons {o : Oper} {l : List Oper} {g : Option (Option Tmp × Bool)} {gs : List (Option (Option Tmp × Bool))} {d : List Nat × Bool × Bool} {ds : List (List Nat × Bool × Bool)} : gitsGD (o :: l) (g :: gs) (d :: ds) = ⟨o, g, some d⟩ :: gitsGD l gs ds := rfl
theorem gitsGD_nil : gitsGD [] [] [] = [] := rfl
theorem wrap_lit (n : Int) (h : decide (-9223372036854775808 ≤ n ∧ n < 9223372036854775808) = true) : IntKind.i64.wrap n = n := by
  have := of_decide_eq_true h
  exact IntWalk.i64_in _ (by omega)

theorem u8_lit (n : Int) (h : decide (0 ≤ n ∧ n < 256) = true) : IntKind.u8.wrap n = n := by
  have := of_decide_eq_true h
  exact IntWalk.u8_in _ (by omega)

theorem getO_set_self {H : Hp} {b : Nat} {x : Option AObj} (h : b < H.length) : getO (H.set b x) b = x := by
  simp [getO, h]
theorem getO_set_ne {H : Hp} {b c : Nat} {x : Option AObj} (h : c ≠ b) : getO (H.set b x) c = getO H c := by
  unfold getO; rw [List.getElem?_set_ne (Ne.symm h)]
theorem getO_snoc {H : Hp} {b : Nat} {x : Option AObj} (h : b < H.length) : getO (H ++ [x]) b = getO H b := getO_append_old h
theorem getO_append_of_len {H : Hp} {b : Nat} {x : Option AObj} (h : b = H.length) : getO (H ++ [x]) b = x := by subst h; exact getO_append_new
theorem len_snoc {H : Hp} {x : Option AObj} : (H ++ [x]).length = H.length + 1 := by simp

section
variable {X : Ctx} {f : FuncId} {lim n0 : Nat} {Q : List TV → Hp → Prop} {k : List It} {t : List TV} {H : Hp} {l : List GI} {dst : Option Tmp} {ty : TypeId} {pos : String} {af : Array Edge} {gu : Option (Nat × Bool)} {g : Option (Option Tmp × Bool)} {dr : Option (List Nat × Bool × Bool)}
def appR (X : Ctx) (lim : Nat) (H : Hp) (ty : TypeId) : Option TypeDesc → Option Value → Option Value → Option (Value × Hp)
  | some (.slice _), some s, some x => appendV X.P lim H ty s x
  | some .string, some s, some x => appendV X.P lim H ty s x
  | _, _, _ => none
theorem exe_append {x y : Operand} {ty1 ty2 : TypeId} : EXE X f lim n0 Q k ⟨⟨dst, .call ⟨.builtin .append, #[x, y], #[ty1, ty2]⟩, ty, pos, af, gu⟩, g, dr⟩ l t H = FR X f lim n0 Q k ⟨⟨dst, .call ⟨.builtin .append, #[x, y], #[ty1, ty2]⟩, ty, pos, af, gu⟩, g, dr⟩ l t ((appR X lim H ty1 (X.P.underlying ty2) (evv X t x) (evv X t y)).bind fun q => some (.val q.1, t, q.2)) := by
  refine EXE_r fun call => ?_
  simp only [stepOp, List.getElem?_toArray, List.getElem?_cons_zero, List.getElem?_cons_succ]
  cases evv X t x with
  | none => cases X.P.underlying ty2 with
    | none => rfl
    | some d => cases d <;> rfl
  | some s => cases evv X t y with
    | none => cases X.P.underlying ty2 with
      | none => rfl
      | some d => cases d <;> rfl
    | some u =>
      cases X.P.underlying ty2 with
      | none => rfl
      | some d =>
        cases d <;> first | rfl | (simp only [appR]; cases appendV X.P lim H ty1 s u <;> rfl)
end
section
variable {P : Program} {lim : Nat} {H : Hp} {t e : TypeId} {es : Nat}
theorem appendV_obj {x : Value} {m n kc b : Nat} {new cells : List Value} (he : elemP P t = some e) (hz : sizeP P e = some es) (hx : srcCells H es x = some (m, new)) (hm : m ≠ 0) (ho : getO H b = some ⟨true, es, cells⟩) (hl : lim ≤ b)
    (hn : n * es = cells.length) (hroom : roomOk P e (n + m) = true) (hc : cells.all isCell = true) (hc' : new.all isCell = true) :
    appendV P lim H t (.slice (some ⟨b, 0, none⟩) n kc) x = some (.slice (some ⟨H.length, 0, none⟩) (n + m) (n + m), H.set b none ++ [some ⟨true, es, cells ++ new⟩]) := by
  unfold appendV
  simp only [he, hz, hx, ho, hl, hroom, if_true, true_and, hm, if_false]
  rw [if_pos (by omega)]
  unfold newSlice
  rw [hn, List.take_length, List.all_append, hc, hc']
  simp
theorem appendV_nil {x : Value} {m : Nat} {new : List Value} (he : elemP P t = some e) (hz : sizeP P e = some es) (hx : srcCells H es x = some (m, new)) (hm : m ≠ 0) (hroom : roomOk P e m = true) (hc' : new.all isCell = true) {kc : Nat} :
    appendV P lim H t (.slice none 0 kc) x = some (.slice (some ⟨H.length, 0, none⟩) m m, H ++ [some ⟨true, es, new⟩]) := by
  unfold appendV
  simp only [he, hz, hx, hroom, if_true, hm, if_false]
  unfold newSlice
  rw [if_pos hc']
theorem srcCells_obj {b n kc : Nat} {wr : Bool} {cells : List Value} (ho : getO H b = some ⟨wr, es, cells⟩) (hn : n * es = cells.length) : srcCells H es (.slice (some ⟨b, 0, none⟩) n kc) = some (n, cells) := by
  unfold srcCells
  simp only [ho, true_and, List.drop_zero]
  rw [if_pos (by omega), hn, List.take_length]
theorem roomOk_of {n k : Nat} {z : Value} (hb : bytesP P e = some k) (hz : zeroP P e = some z) (hs : sizeP P e = some es) (hzs : z.cells.size = es) (h1 : n ≤ 140737488355328) (h2 : (n + 1000) * k * 4 ≤ 281474976710656) : roomOk P e n = true := by
  unfold roomOk
  simp only [hb, hz, hs, hzs]
  simp [h1, h2]
end
section
variable {X : Ctx} {f : FuncId} {lim lim' n0 : Nat} {Q : List TV → Hp → Prop} {k : List It} {t t' : List TV} {H : Hp} {l : List GI} {i : GI} {ty e : TypeId} {es : Nat}
/-- append to an object: what is new of memory. -/
theorem append_of {x : Value} {m n kc b : Nat} {new cells : List Value} (he : elemP X.P ty = some e) (hz : sizeP X.P e = some es) (hx : srcCells H es x = some (m, new)) (hm : m ≠ 0) (ho : getO H b = some ⟨true, es, cells⟩) (hl : lim' ≤ b)
    (hn : n * es = cells.length) (hroom : roomOk X.P e (n + m) = true) (hc : cells.all isCell = true) (hc' : new.all isCell = true)
    (h : ∀ H1, H1.length = H.length + 1 → (∀ c, c < H.length → c ≠ b → getO H1 c = getO H c) → getO H1 H.length = some ⟨true, es, cells ++ new⟩ → FR X f lim n0 Q k i l t (some (.val (.slice (some ⟨H.length, 0, none⟩) (n + m) (n + m)), t', H1))) :
    FR X f lim n0 Q k i l t ((appendV X.P lim' H ty (.slice (some ⟨b, 0, none⟩) n kc) x).bind fun q => some (.val q.1, t', q.2)) := by
  rw [appendV_obj he hz hx hm ho hl hn hroom hc hc']
  refine h _ (by simp) (fun c hc1 hc2 => ?_) ?_
  · rw [getO_snoc (by simpa using hc1), getO_set_ne hc2]
  · have : getO (H.set b none ++ [some ⟨true, es, cells ++ new⟩]) (H.set b none).length = some ⟨true, es, cells ++ new⟩ := getO_append_new
    simpa using this
/-- append to nothing. -/
theorem append_of_nil {x : Value} {m n kc : Nat} {new : List Value} (hn : n = 0) (he : elemP X.P ty = some e) (hz : sizeP X.P e = some es) (hx : srcCells H es x = some (m, new)) (hm : m ≠ 0) (hroom : roomOk X.P e m = true) (hc' : new.all isCell = true)
    (h : ∀ H1, H1.length = H.length + 1 → (∀ c, c < H.length → getO H1 c = getO H c) → getO H1 H.length = some ⟨true, es, new⟩ → FR X f lim n0 Q k i l t (some (.val (.slice (some ⟨H.length, 0, none⟩) (n + m) (n + m)), t', H1))) :
    FR X f lim n0 Q k i l t ((appendV X.P lim' H ty (.slice none n kc) x).bind fun q => some (.val q.1, t', q.2)) := by
  subst hn
  rw [appendV_nil he hz hx hm hroom hc']
  have := h (H ++ [some ⟨true, es, new⟩]) (by simp) (fun c hc => getO_snoc hc) getO_append_new
  rw [Nat.zero_add] at this
  exact this
end
end Go.Proofs.Ytmgofjgfmcmceaa
end
