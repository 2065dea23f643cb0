/- Regions whose order is drawn, first part: on what an operation hangs. Regions whose order is drawn, second part: on what of memory an operation hangs; functions that write nothing that was there. Regions whose order is drawn, third part: what writes nothing that was there; new objects; stores. Regions whose order is drawn, fourth part: two operations whose order is open may change places. Regions whose order is drawn, fifth part: two operations whose order is open change places. Regions whose order is drawn, sixth part: the two steps change places. Regions whose order is drawn, seventh part: stores; all in one. Regions whose order is drawn, last part: every order. -/
import Derived.Test.YtmgofjgfmcmceaaF2
section
namespace Go.Proofs.Ytmgofjgfmcmceaa
open Go.RowKit

section
variable {X : Ctx} {t t' : List TV} {H : Hp} {o : Oper} {f : FuncId} {lim : Nat} {call : CallF}

theorem mapM_congr' {α β : Type} {g h : α → Option β} : ∀ {l : List α}, (∀ p ∈ l, g p = h p) → l.mapM g = l.mapM h
  | [], _ => by simp
  | p :: l, hp => by
    rw [List.mapM_cons, List.mapM_cons, hp p (by simp), mapM_congr' (fun q hq => hp q (by simp [hq]))]

/-- The operands are the same. -/
def SameOps (X : Ctx) (t t' : List TV) (o : Oper) : Prop := ∀ z ∈ o.op.operands, ev X t' z = ev X t z

theorem SameOps.evv (h : SameOps X t t' o) {z : Operand} (hz : z ∈ o.op.operands) : evv X t' z = evv X t z := by unfold Go.Proofs.Ytmgofjgfmcmceaa.evv; rw [h z hz]
theorem SameOps.evs (h : SameOps X t t' o) {z : Operand} (hz : z ∈ o.op.operands) : evs X t' z = evs X t z := by unfold Go.Proofs.Ytmgofjgfmcmceaa.evs; rw [h z hz]
theorem SameOps.exec (h : SameOps X t t' o) (hs : ∀ cs b, o.op ≠ .select cs b) : execOp (rho X t') o = execOp (rho X t) o :=
  execOp_congr o hs fun z hz => by unfold rho; rw [h.evv hz]
theorem SameOps.symm (h : SameOps X t t' o) : SameOps X t' t o := fun z hz => (h z hz).symm

/-- No store, no new variable of the frame's own. -/
def isStore (o : Oper) : Bool := match o.op with | .store _ _ _ => true | _ => false
def isVar (o : Oper) : Bool := match o.op with | .alloc _ | .box _ _ => true | _ => false

/-- A load's own variable, if it is one. -/
def loadLoc (X : Ctx) (t : List TV) (o : Oper) : Option Nat :=
  match o.op with
  | .load _ a => match placeOf (ev X t a) with
    | some (.loc d _) => some d
    | _ => none
  | .store _ a _ => match placeOf (ev X t a) with
    | some (.loc d _) => some d
    | _ => none
  | _ => none

theorem ofV_map (t t' : List TV) (y : Option (Value × Hp)) : ofV t' y = (ofV t y).map fun r => (r.1, t', r.2.2) := by
  cases y with
  | none => rfl
  | some p => rfl

set_option maxHeartbeats 1000000 in
theorem stepOp_congr (h : SameOps X t t' o) (hst : isStore o = false) (hva : isVar o = false) (hl : ∀ d, loadLoc X t o = some d → t'.getD d .undef = t.getD d .undef) :
    stepOp X f lim call t' H o = (stepOp X f lim call t H o).map fun r => (r.1, t', r.2.2) := by
  have hx : (∀ cs b, o.op ≠ .select cs b) → execOp (rho X t') o = execOp (rho X t) o := h.exec
  cases hop : o.op with
  | move x =>
    have e := h x (by rw [hop]; simp [Op.operands])
    simp only [stepOp, hop, e, Option.map_some]
  | assign x =>
    have e := h x (by rw [hop]; simp [Op.operands])
    simp only [stepOp, hop, e, Option.map_some]
  | pick c x y =>
    have e1 := h c (by rw [hop]; simp [Op.operands])
    have e2 := h x (by rw [hop]; simp [Op.operands])
    have e3 := h y (by rw [hop]; simp [Op.operands])
    simp only [stepOp, hop, e1, e2, e3]
    split <;> rfl
  | alloc e => simp [isVar, hop] at hva
  | box e x => simp [isVar, hop] at hva
  | store ty x y => simp [isStore, hop] at hst
  | build ty parts =>
    have e : parts.toList.mapM (fun p => (evv X t' p.2).map fun v => (p.1, v)) = parts.toList.mapM (fun p => (evv X t p.2).map fun v => (p.1, v)) :=
      mapM_congr' fun p hp => by rw [h.evv (by rw [hop]; simp only [Op.operands]; simp; exact ⟨p.1, by simpa using hp⟩)]
    simp only [stepOp, hop, e]
    repeat' (first | rfl | split)
  | buildSlice ty len parts =>
    have e : parts.toList.mapM (fun p => (evv X t' p.2).map fun v => (p.1, v)) = parts.toList.mapM (fun p => (evv X t p.2).map fun v => (p.1, v)) :=
      mapM_congr' fun p hp => by rw [h.evv (by rw [hop]; simp only [Op.operands]; simp; exact ⟨p.1, by simpa using hp⟩)]
    simp only [stepOp, hop, e, ofV_map t t']
    repeat' (first | rfl | split)
  | load ty x =>
    have e := h x (by rw [hop]; simp [Op.operands])
    simp only [stepOp, hop, e]
    cases hp : placeOf (ev X t x) with
    | none => rfl
    | some p =>
      cases p with
      | loc d off =>
        have := hl d (by simp [loadLoc, hop, hp])
        simp only [this]
        split
        · rw [Option.map_map]; rfl
        · rfl
      | obj b off =>
        simp only
        split
        · rw [Option.map_map]; rfl
        · rfl
  | nilCheck x =>
    have e := h x (by rw [hop]; simp [Op.operands])
    simp only [stepOp, hop, e]
    split <;> rfl
  | binOp op ty x y ty2 =>
    have e1 := h.evv (z := x) (by rw [hop]; simp [Op.operands])
    have e2 := h.evv (z := y) (by rw [hop]; simp [Op.operands])
    have e3 := hx (by rw [hop]; intros; simp)
    simp only [stepOp, hop, e1, e2, e3]
    split
    · split <;> rfl
    · split
      · rw [Option.map_map]; rfl
      · split
        · split
          · rw [Option.map_map]; rfl
          · rfl
        · rfl
    · rfl
  | unOp op ty x =>
    have e1 := h.evs (z := x) (by rw [hop]; simp [Op.operands])
    have e3 := hx (by rw [hop]; intros; simp)
    simp only [stepOp, hop, e1, e3]
    split
    · rw [Option.map_map]; rfl
    · rfl
  | convert s d x =>
    have e1 := h.evv (z := x) (by rw [hop]; simp [Op.operands])
    have e3 := hx (by rw [hop]; intros; simp)
    simp only [stepOp, hop, e1, e3, ofV_map t t']
    split
    · repeat' (first | rfl | split)
    · repeat' (first | rfl | split)
    · split
      · rw [Option.map_map]; rfl
      · rfl
    · rfl
  | makeFunc fn first captured =>
    have e : captured.toList.mapM (evv X t') = captured.toList.mapM (evv X t) :=
      mapM_congr' fun p hp => h.evv (by rw [hop]; simp only [Op.operands]; simp; exact .inr (by simpa using hp))
    simp only [stepOp, hop, e]
    repeat' (first | rfl | split)
  | makeSlice ty l c =>
    have e1 := h.evv (z := l) (by rw [hop]; simp [Op.operands])
    have e2 := h.evv (z := c) (by rw [hop]; simp [Op.operands])
    simp only [stepOp, hop, e1, e2, ofV_map t t']
    repeat' (first | rfl | split)
  | slice ty x lo hi mx =>
    have e1 := h.evv (z := x) (by rw [hop]; simp [Op.operands])
    have e3 := hx (by rw [hop]; intros; simp)
    have elo : ∀ z, lo = some z → evv X t' z = evv X t z ∧ evs X t' z = evs X t z := fun z hz => ⟨h.evv (by rw [hop, hz]; simp [Op.operands]), h.evs (by rw [hop, hz]; simp [Op.operands])⟩
    have ehi : ∀ z, hi = some z → evv X t' z = evv X t z ∧ evs X t' z = evs X t z := fun z hz => ⟨h.evv (by rw [hop, hz]; simp [Op.operands]), h.evs (by rw [hop, hz]; simp [Op.operands])⟩
    have b1 : (lo.all fun z => (evs X t' z).isSome) = (lo.all fun z => (evs X t z).isSome) := by
      cases lo with
      | none => rfl
      | some z => simp [(elo z rfl).2]
    have b2 : (hi.all fun z => (evs X t' z).isSome) = (hi.all fun z => (evs X t z).isSome) := by
      cases hi with
      | none => rfl
      | some z => simp [(ehi z rfl).2]
    cases lo with
    | none =>
      cases hi with
      | none =>
        simp only [stepOp, hop, e1, e3, b1]
        split
        · split
          · rw [Option.map_map]; rfl
          · rfl
        · repeat' (first | rfl | split)
        · rfl
      | some z2 =>
        simp only [stepOp, hop, e1, e3, (ehi z2 rfl).1, b1, b2]
        split
        · split
          · rw [Option.map_map]; rfl
          · rfl
        · repeat' (first | rfl | split)
        · rfl
    | some z1 =>
      cases hi with
      | none =>
        simp only [stepOp, hop, e1, e3, (elo z1 rfl).1, b1, b2]
        split
        · split
          · rw [Option.map_map]; rfl
          · rfl
        · repeat' (first | rfl | split)
        · rfl
      | some z2 =>
        simp only [stepOp, hop, e1, e3, (elo z1 rfl).1, (ehi z2 rfl).1, b1, b2]
        split
        · split
          · rw [Option.map_map]; rfl
          · rfl
        · repeat' (first | rfl | split)
        · rfl
  | fieldAddr s x fl =>
    have e := h x (by rw [hop]; simp [Op.operands])
    simp only [stepOp, hop, e]
    split <;> rfl
  | field s x fl =>
    have e := h.evv (z := x) (by rw [hop]; simp [Op.operands])
    simp only [stepOp, hop, e]
    split
    · rw [Option.map_map]; rfl
    · rfl
  | indexAddr ty x ix =>
    have e1 := h x (by rw [hop]; simp [Op.operands])
    have e2 := h.evv (z := x) (by rw [hop]; simp [Op.operands])
    have e3 := h.evv (z := ix) (by rw [hop]; simp [Op.operands])
    simp only [stepOp, hop, e1, e2, e3]
    split
    · split
      · generalize inB _ _ = bb
        cases bb <;> rfl
      · rfl
    · split
      · generalize inB _ _ = bb
        cases bb <;> rfl
      · rfl
    · rfl
  | index ty x ix =>
    have e2 := h.evv (z := x) (by rw [hop]; simp [Op.operands])
    have e3 := h.evv (z := ix) (by rw [hop]; simp [Op.operands])
    have e4 := hx (by rw [hop]; intros; simp)
    simp only [stepOp, hop, e2, e3, e4]
    split
    · rw [Option.map_map]; rfl
    · split
      · split
        · generalize inB _ _ = bb
          cases bb
          · rfl
          · simp only [cond_true]; rw [Option.map_map]; rfl
        · rfl
      · rfl
    · rfl
  | extract x i =>
    have e := h.evv (z := x) (by rw [hop]; simp [Op.operands])
    simp only [stepOp, hop, e]
    split
    · rw [Option.map_map]; rfl
    · rfl
  | call c =>
    have hargs : ∀ z ∈ c.args, evv X t' z = evv X t z ∧ evs X t' z = evs X t z := fun z hz => ⟨h.evv (by rw [hop]; simp [Op.operands, Call.operands, hz]), h.evs (by rw [hop]; simp [Op.operands, Call.operands, hz])⟩
    have hget : ∀ (i : Nat) z, c.args[i]? = some z → evv X t' z = evv X t z := fun i z hz => (hargs z (Array.mem_of_getElem? hz)).1
    have e4 := hx (by rw [hop]; intros; simp)
    simp only [stepOp, hop]
    split
    · rename_i hcal
      split
      · rename_i z hz hsz
        rw [hget 0 z hz]
        repeat' (first | rfl | split)
      · rfl
    · split
      · rename_i s x ty ty2 h0 h1 h2 h3
        rw [hget 0 s h0, hget 1 x h1, ]
        simp only [ofV_map t t']
        repeat' (first | rfl | split)
      · rfl
    · split
      · rename_i d s ty h0 h1 h2
        rw [hget 0 d h0, hget 1 s h1]
        simp only [ofV_map t t']
        repeat' (first | rfl | split)
      · rfl
    · have e5 : (c.args.toList.all fun z => (evs X t' z).isSome) = (c.args.toList.all fun z => (evs X t z).isSome) := by
        rw [Bool.eq_iff_iff, List.all_eq_true, List.all_eq_true]
        exact ⟨fun hh z hz => by rw [← (hargs z (by simpa using hz)).2]; exact hh z hz, fun hh z hz => by rw [(hargs z (by simpa using hz)).2]; exact hh z hz⟩
      rw [e5, e4]
      split
      · rw [Option.map_map]; rfl
      · rfl
    · rename_i g hcal
      have e6 : evv X t' g = evv X t g := h.evv (by rw [hop]; simp [Op.operands, Call.operands, hcal])
      have e7 : c.args.toList.mapM (evv X t') = c.args.toList.mapM (evv X t) := mapM_congr' fun z hz => (hargs z (by simpa using hz)).1
      rw [e6, e7]
      simp only [ofV_map t t']
      repeat' (first | rfl | split)
    · rfl
  | _ => simp only [stepOp, hop, Option.map_none]
end
end Go.Proofs.Ytmgofjgfmcmceaa
end
section
namespace Go.Proofs.Ytmgofjgfmcmceaa
open Go.RowKit

section
variable {X : Ctx} {t t' : List TV} {H : Hp} {o : Oper} {f : FuncId} {lim : Nat} {call : CallF}

theorem ofV_map2 (_t : List TV) (_y : Option (Value × Hp)) : True := trivial

theorem isSliceT_false {P : Program} {t : TypeId} (h : isSliceT P t = false) : ∀ e, P.underlying t ≠ some (.slice e) := by
  intro e he
  simp [isSliceT, he] at h

/-- Slots alone. -/
theorem stepOp_k0 (hk : kindOf X f o = .k0) (H' : Hp) : stepOp X f lim call t H' o = (stepOp X f lim call t H o).map fun r => (r.1, r.2.1, H') := by
  cases hop : o.op with
  | move x => simp only [stepOp, hop, Option.map_some]
  | assign x => simp only [stepOp, hop, Option.map_some]
  | pick c x y => simp only [stepOp, hop]; split <;> rfl
  | build ty parts => simp only [stepOp, hop]; repeat' (first | rfl | split)
  | nilCheck x => simp only [stepOp, hop]; split <;> rfl
  | binOp op ty x y ty2 =>
    simp only [stepOp, hop]
    split
    · split <;> rfl
    · split
      · rw [Option.map_map]; rfl
      · split
        · split
          · rw [Option.map_map]; rfl
          · rfl
        · rfl
    · rfl
  | unOp op ty x =>
    simp only [stepOp, hop]
    split
    · rw [Option.map_map]; rfl
    · rfl
  | convert s d x =>
    have hs : isSliceT X.P s = false := by
      cases h : isSliceT X.P s with
      | false => rfl
      | true => simp [kindOf, hop, h] at hk
    have hd : isSliceT X.P d = false := by
      cases h : isSliceT X.P d with
      | false => rfl
      | true => simp [kindOf, hop, hs, h] at hk
    have hs' := isSliceT_false hs
    have hd' := isSliceT_false hd
    simp only [stepOp, hop]
    split
    · split
      · rename_i e hu _; exact absurd hu (hs' e)
      · rfl
    · split
      · rename_i e _ hu; exact absurd hu (hd' e)
      · rfl
      · rfl
    · split
      · rw [Option.map_map]; rfl
      · rfl
    · rfl
  | makeFunc fn first captured => simp only [stepOp, hop]; repeat' (first | rfl | split)
  | slice ty x lo hi mx =>
    have hu : X.P.underlying ty = some .string := by
      simp only [kindOf, hop] at hk
      split at hk
      · assumption
      · cases hk
    have he : elemP X.P ty = none := by simp [elemP, hu]
    simp only [stepOp, hop, he]
    split
    · split
      · rw [Option.map_map]; rfl
      · rfl
    · rfl
    · rfl
  | fieldAddr s x fl => simp only [stepOp, hop]; split <;> rfl
  | field s x fl =>
    simp only [stepOp, hop]
    split
    · rw [Option.map_map]; rfl
    · rfl
  | indexAddr ty x ix =>
    simp only [stepOp, hop]
    split
    · split
      · generalize inB _ _ = bb
        cases bb <;> rfl
      · rfl
    · split
      · generalize inB _ _ = bb
        cases bb <;> rfl
      · rfl
    · rfl
  | index ty x ix =>
    simp only [stepOp, hop]
    split
    · rw [Option.map_map]; rfl
    · split
      · split
        · generalize inB _ _ = bb
          cases bb
          · rfl
          · simp only [cond_true]; rw [Option.map_map]; rfl
        · rfl
      · rfl
    · rfl
  | extract x i =>
    simp only [stepOp, hop]
    split
    · rw [Option.map_map]; rfl
    · rfl
  | call c =>
    simp only [kindOf, hop] at hk
    simp only [stepOp, hop]
    split
    · repeat' (first | rfl | split)
    · rename_i hcal; simp [hcal] at hk
    · rename_i hcal; simp [hcal] at hk
    · split
      · rw [Option.map_map]; rfl
      · rfl
    · rename_i g hcal
      rw [hcal] at hk
      cases g <;> simp only at hk <;> (try cases hk)
      split at hk <;> cases hk
    · rfl
  | alloc e => simp only [kindOf, hop] at hk; (repeat' split at hk) <;> cases hk
  | box e x => simp only [kindOf, hop] at hk; (repeat' split at hk) <;> cases hk
  | buildSlice ty len parts => simp [kindOf, hop] at hk
  | load ty x => simp [kindOf, hop] at hk
  | store ty x y =>
    cases x with
    | tmp d => simp only [kindOf, hop] at hk; split at hk <;> cases hk
    | _ => simp [kindOf, hop] at hk
  | makeSlice ty l c => simp [kindOf, hop] at hk
  | _ => simp only [stepOp, hop, Option.map_none]

theorem getO_ext {H : Hp} {b : Nat} (G : Hp) (hb : b < H.length) : getO (H ++ G) b = getO H b := by
  simp [getO, List.getElem?_append_left hb]

/-- What is read stays where objects are added. -/
theorem stepOp_read (hk : kindOf X f o = .k1 ∨ kindOf X f o = .ks) {x : TV} {t1 : List TV} {H1 : Hp} (h : stepOp X f lim call t H o = some (x, t1, H1)) : H1 = H ∧ t1 = t ∧ ∀ G, stepOp X f lim call t (H ++ G) o = some (x, t, H ++ G) := by
  cases hop : o.op with
  | load ty z =>
    simp only [stepOp, hop] at h ⊢
    cases hp : placeOf (ev X t z) with
    | none => rw [hp] at h; cases h
    | some p =>
      rw [hp] at h
      cases p with
      | loc d off =>
        simp only at h ⊢
        split at h
        · rename_i cs hd
          obtain ⟨v, h1, h2⟩ := map_val h
          simp only [Prod.mk.injEq] at h2
          obtain ⟨rfl, rfl, rfl⟩ := h2
          exact ⟨rfl, rfl, fun G => by simp only [h1, Option.map_some]⟩
        · cases h
      | obj b off =>
        simp only at h ⊢
        split at h
        · rename_i ob hb
          obtain ⟨v, h1, h2⟩ := map_val h
          simp only [Prod.mk.injEq] at h2
          obtain ⟨rfl, rfl, rfl⟩ := h2
          exact ⟨rfl, rfl, fun G => by simp only [getO_ext G (getO_lt hb), hb, h1, Option.map_some]⟩
        · cases h
  | slice ty z lo hi mx =>
    simp only [stepOp, hop] at h ⊢
    split at h
    · split at h
      · rename_i hc
        obtain ⟨v, h1, h2⟩ := map_val h
        simp only [Prod.mk.injEq] at h2
        obtain ⟨rfl, rfl, rfl⟩ := h2
        exact ⟨rfl, rfl, fun G => by rw [if_pos hc, h1]; rfl⟩
      · cases h
    · split at h
      · split at h
        · split at h
          · rename_i hc
            split at h
            · simp only [Option.some.injEq, Prod.mk.injEq] at h
              obtain ⟨rfl, rfl, rfl⟩ := h
              exact ⟨rfl, rfl, fun G => by rw [if_pos hc]⟩
            · split at h
              · rename_i ob hb
                split at h
                · rename_i hes
                  simp only [Option.some.injEq, Prod.mk.injEq] at h
                  obtain ⟨rfl, rfl, rfl⟩ := h
                  exact ⟨rfl, rfl, fun G => by rw [if_pos hc]; simp only [getO_ext G (getO_lt hb), hb]; rw [if_pos hes]⟩
                · cases h
              · cases h
            · cases h
          · cases h
        · cases h
      · cases h
    · cases h
  | convert s d z =>
    have hs : isSliceT X.P s = true := by
      cases h : isSliceT X.P s with
      | true => rfl
      | false =>
        simp only [kindOf, hop, h, Bool.false_eq_true, if_false] at hk
        rcases hk with hk | hk <;> split at hk <;> cases hk
    simp only [stepOp, hop] at h ⊢
    split at h
    · split at h
      · split at h
        · split at h
          · rename_i m cs hsrc
            split at h
            · rename_i ns hns
              simp only [Option.some.injEq, Prod.mk.injEq] at h
              obtain ⟨rfl, rfl, rfl⟩ := h
              refine ⟨rfl, rfl, fun G => ?_⟩
              have hsrc' : ∀ a n c, srcCells H 1 (.slice a n c) = some (m, cs) → srcCells (H ++ G) 1 (.slice a n c) = some (m, cs) := by
                intro a n c hh
                cases a with
                | none => exact hh
                | some ad =>
                  obtain ⟨b, off, sp⟩ := ad
                  cases sp with
                  | some _ => simp [srcCells] at hh
                  | none =>
                    simp only [srcCells] at hh ⊢
                    split at hh
                    · rename_i ob hb
                      simp only [getO_ext G (getO_lt hb), hb]; exact hh
                    · cases hh
              simp only [hsrc' _ _ _ hsrc, hns]
            · cases h
          · cases h
        · cases h
      · cases h
    · -- a string is no slice
      simp only [isSliceT] at hs
      split at h
      · rename_i hu _
        rw [hu] at hs; cases hs
      · rename_i hu _
        rw [hu] at hs; cases hs
      · cases h
    · split at h
      · rename_i hsc
        obtain ⟨v, h1, h2⟩ := map_val h
        simp only [Prod.mk.injEq] at h2
        obtain ⟨rfl, rfl, rfl⟩ := h2
        exact ⟨rfl, rfl, fun G => by rw [if_pos hsc, h1]; rfl⟩
      · cases h
    · cases h
  | call c =>
    simp only [kindOf, hop] at hk
    rcases hk with hk | hk <;> split at hk <;> (try cases hk) <;> split at hk <;> cases hk
  | alloc e => simp only [kindOf, hop] at hk; rcases hk with hk | hk <;> (repeat' split at hk) <;> cases hk
  | box e x => simp only [kindOf, hop] at hk; rcases hk with hk | hk <;> (repeat' split at hk) <;> cases hk
  | store ty x y =>
    cases x with
    | tmp d => simp only [kindOf, hop] at hk; rcases hk with hk | hk <;> split at hk <;> cases hk
    | _ => simp [kindOf, hop] at hk
  | _ => simp [kindOf, hop] at hk
end
end Go.Proofs.Ytmgofjgfmcmceaa
end
section
namespace Go.Proofs.Ytmgofjgfmcmceaa
open Go.RowKit

/-- What lies below lim stays; nothing goes. -/
def Keep (lim : Nat) (H H1 : Hp) : Prop := H.length ≤ H1.length ∧ ∀ b, b < lim → b < H.length → H1[b]? = H[b]?
theorem Keep.refl (lim : Nat) (H : Hp) : Keep lim H H := ⟨Nat.le_refl _, fun _ _ _ => rfl⟩
theorem Keep.trans {lim : Nat} {H H1 H2 : Hp} (h : Keep lim H H1) (k : Keep lim H1 H2) : Keep lim H H2 := ⟨Nat.le_trans h.1 k.1, fun b hb hl => (k.2 b hb (Nat.lt_of_lt_of_le hl h.1)).trans (h.2 b hb hl)⟩
theorem Keep.ext {lim : Nat} {H : Hp} (G : Hp) : Keep lim H (H ++ G) := ⟨by simp, fun b hb hl => List.getElem?_append_left hl⟩
theorem Keep.set {lim : Nat} {H : Hp} {b : Nat} (hb : lim ≤ b) (x : Option AObj) : Keep lim H (H.set b x) := ⟨by simp, fun c hc _ => List.getElem?_set_ne (by omega)⟩
/-- All stays: what is there is a beginning. -/
theorem Keep.whole {H H1 : Hp} (h : Keep H.length H H1) : ∃ G, H1 = H ++ G := by
  refine ⟨H1.drop H.length, ?_⟩
  apply List.ext_getElem?
  intro i
  rcases Nat.lt_or_ge i H.length with hi | hi
  · rw [List.getElem?_append_left hi]; exact h.2 i hi hi
  · rw [List.getElem?_append_right hi, List.getElem?_drop]; congr 1; omega

section
variable {X : Ctx} {t t' : List TV} {H : Hp} {o : Oper} {f : FuncId} {lim : Nat} {call : CallF}

theorem newVar_forms {dst : Option Tmp} {cs : List Value} {x : TV} {t1 : List TV} {H1 : Hp} (h : newVar X f t H dst cs = some (x, t1, H1)) :
    (∃ d, dst = some d ∧ (X.loc f).contains d = true ∧ x = .box cs ∧ t1 = t ∧ H1 = H ∧ (∀ (i q : Nat), t[i]? ≠ some (TV.lptr d q))) ∨
    (∃ d, dst = some d ∧ (X.loc f).contains d = false ∧ (∃ v, x = .val v) ∧ t1 = t ∧ ∃ G, H1 = H ++ G) := by
  unfold newVar at h
  split at h
  · cases dst with
    | none => cases h
    | some d =>
      simp only at h
      split at h
      · rename_i hd
        split at h
        · rename_i hno
          simp only [Option.some.injEq, Prod.mk.injEq] at h
          obtain ⟨rfl, rfl, rfl⟩ := h
          refine .inl ⟨d, rfl, hd, rfl, rfl, rfl, fun i q hi => ?_⟩
          have := List.all_eq_true.1 hno _ (List.mem_of_getElem? hi)
          simp at this
        · cases h
      · rename_i hd
        simp only [Option.some.injEq, Prod.mk.injEq] at h
        obtain ⟨rfl, rfl, rfl⟩ := h
        exact .inr ⟨d, rfl, by simpa using hd, ⟨_, rfl⟩, rfl, _, rfl⟩
  · cases h
theorem newSlice_forms {es n : Nat} {cs : List Value} {v : Value} {H1 : Hp} (h : newSlice H es n cs = some (v, H1)) : ∃ G, H1 = H ++ G := by
  unfold newSlice at h
  split at h
  · simp only [Option.some.injEq, Prod.mk.injEq] at h
    exact ⟨_, h.2.symm⟩
  · cases h

theorem appendV_keep {ty : TypeId} {s x v : Value} {H1 : Hp} (h : appendV X.P lim H ty s x = some (v, H1)) : Keep lim H H1 := by
  unfold appendV at h
  split at h
  · cases h
  · split at h
    · cases h
    · split at h
      · cases h
      · split at h
        · split at h
          · split at h
            · simp only [Option.some.injEq, Prod.mk.injEq] at h; rw [← h.2]; exact Keep.refl _ _
            · split at h
              · obtain ⟨G, rfl⟩ := newSlice_forms h; exact Keep.ext G
              · cases h
          · cases h
        · split at h
          · split at h
            · rename_i hc
              split at h
              · simp only [Option.some.injEq, Prod.mk.injEq] at h; rw [← h.2]; exact Keep.refl _ _
              · split at h
                · obtain ⟨G, rfl⟩ := newSlice_forms h
                  exact (Keep.set hc.2.1 none).trans (Keep.ext G)
                · cases h
            · cases h
          · cases h
        · cases h

theorem copyV_keep {ty : TypeId} {d s v : Value} {H1 : Hp} (h : copyV X.P lim H ty d s = some (v, H1)) : Keep lim H H1 := by
  unfold copyV at h
  split at h
  · cases h
  · split at h
    · cases h
    · split at h
      · split at h
        · split at h
          · simp only at h
            split at h
            · rename_i hc
              simp only [Option.some.injEq, Prod.mk.injEq] at h; rw [← h.2]; exact Keep.set hc.2.1 _
            · cases h
          · cases h
        · split at h
          · simp only [Option.some.injEq, Prod.mk.injEq] at h; rw [← h.2]; exact Keep.refl _ _
          · cases h
        · cases h
      · split at h
        · split at h
          · simp only [Option.some.injEq, Prod.mk.injEq] at h; rw [← h.2]; exact Keep.refl _ _
          · cases h
        · cases h
      · cases h

def CallKeeps (lim : Nat) (call : CallF) : Prop := ∀ g vs H r H1, call g vs H = some (r, H1) → Keep lim H H1

set_option maxHeartbeats 1000000 in
theorem stepOp_keeps (hck : CallKeeps lim call) {x : TV} {t1 : List TV} {H1 : Hp} (h : stepOp X f lim call t H o = some (x, t1, H1)) : Keep lim H H1 := by
  cases hop : o.op with
  | alloc e =>
    simp only [stepOp, hop] at h
    split at h
    · split at h
      · rcases newVar_forms h with ⟨d, _, _, _, _, rfl, _⟩ | ⟨d, _, _, _, _, G, rfl⟩
        · exact Keep.refl _ _
        · exact Keep.ext G
      · cases h
    · cases h
  | box e y =>
    simp only [stepOp, hop] at h
    split at h
    · rcases newVar_forms h with ⟨d, _, _, _, _, rfl, _⟩ | ⟨d, _, _, _, _, G, rfl⟩
      · exact Keep.refl _ _
      · exact Keep.ext G
    · cases h
  | buildSlice ty len parts =>
    simp only [stepOp, hop] at h
    repeat' split at h
    all_goals first
      | (cases h; done)
      | (obtain ⟨v, g1, _, _⟩ := ofV_ok h; obtain ⟨G, rfl⟩ := newSlice_forms g1; exact Keep.ext G)
  | makeSlice ty l c =>
    simp only [stepOp, hop] at h
    repeat' split at h
    all_goals first
      | (cases h; done)
      | (obtain ⟨v, g1, _, _⟩ := ofV_ok h; obtain ⟨G, rfl⟩ := newSlice_forms g1; exact Keep.ext G)
  | store ty z y =>
    simp only [stepOp, hop] at h
    split at h
    · split at h
      · obtain ⟨v, h1, h2⟩ := map_val h
        simp only [Prod.mk.injEq] at h2
        rw [← h2.2.2]; exact Keep.refl _ _
      · cases h
    · split at h
      · split at h
        · rename_i hc
          obtain ⟨v, h1, h2⟩ := map_val h
          simp only [Prod.mk.injEq] at h2
          rw [← h2.2.2]; exact Keep.set hc.2 _
        · cases h
      · cases h
    · cases h
  | convert s d z =>
    simp only [stepOp, hop] at h
    repeat' split at h
    all_goals first
      | (cases h; done)
      | (obtain ⟨v, g1, _, _⟩ := ofV_ok h; obtain ⟨G, rfl⟩ := newSlice_forms g1; exact Keep.ext G)
      | (simp only [Option.some.injEq, Prod.mk.injEq] at h; rw [← h.2.2]; exact Keep.refl _ _)
      | (obtain ⟨v, h1, h2⟩ := map_val h; simp only [Prod.mk.injEq] at h2; rw [← h2.2.2]; exact Keep.refl _ _)
  | call c =>
    simp only [stepOp, hop] at h
    repeat' split at h
    all_goals first
      | (cases h; done)
      | (simp only [Option.some.injEq, Prod.mk.injEq] at h; rw [← h.2.2]; exact Keep.refl _ _)
      | (obtain ⟨v, h1, h2⟩ := map_val h; simp only [Prod.mk.injEq] at h2; rw [← h2.2.2]; exact Keep.refl _ _)
      | (obtain ⟨v, g1, _, _⟩ := ofV_ok h; first | exact appendV_keep g1 | exact copyV_keep g1 | exact hck _ _ _ _ _ g1)
  | indexAddr ty x ix =>
    simp only [stepOp, hop] at h
    split at h
    · split at h
      · revert h
        generalize inB _ _ = bb
        intro h
        cases bb
        · cases h
        · simp only [cond_true, Option.some.injEq, Prod.mk.injEq] at h; rw [← h.2.2]; exact Keep.refl _ _
      · cases h
    · split at h
      · revert h
        generalize inB _ _ = bb
        intro h
        cases bb
        · cases h
        · simp only [cond_true, Option.some.injEq, Prod.mk.injEq] at h; rw [← h.2.2]; exact Keep.refl _ _
      · cases h
    · cases h
  | index ty x ix =>
    simp only [stepOp, hop] at h
    split at h
    · obtain ⟨v, h1, h2⟩ := map_val h; simp only [Prod.mk.injEq] at h2; rw [← h2.2.2]; exact Keep.refl _ _
    · split at h
      · split at h
        · revert h
          generalize inB _ _ = bb
          intro h
          cases bb
          · cases h
          · simp only [cond_true] at h
            obtain ⟨v, h1, h2⟩ := map_val h; simp only [Prod.mk.injEq] at h2; rw [← h2.2.2]; exact Keep.refl _ _
        · cases h
      · cases h
    · cases h
  | _ =>
    simp only [stepOp, hop] at h
    repeat' split at h
    all_goals first
      | (cases h; done)
      | (simp only [Option.some.injEq, Prod.mk.injEq] at h; rw [← h.2.2]; exact Keep.refl _ _)
      | (obtain ⟨v, h1, h2⟩ := map_val h; simp only [Prod.mk.injEq] at h2; rw [← h2.2.2]; exact Keep.refl _ _)

def RunKeeps (lim : Nat) (ex : Run) : Prop := ∀ c t H e t1 H1, ex c t H = some (e, t1, H1) → Keep lim H H1

theorem runOps_keeps (hck : CallKeeps lim call) {ops : Array Oper} : ∀ (l : List Oper) {t : List TV} {H : Hp}, ∀ {t1 : List TV} {H1 : Hp}, runOps X f lim call ops l t H = some (t1, H1) → Keep lim H H1
  | [], t, H, t1, H1, h => by
    simp only [runOps, Option.some.injEq, Prod.mk.injEq] at h; rw [← h.2]; exact Keep.refl _ _
  | o :: l, t, H, t1, H1, h => by
    simp only [runOps] at h
    split at h
    · rename_i t' H' h1
      have hk : Keep lim H H' := by
        unfold runOp at h1
        split at h1
        · split at h1
          · rename_i x t2 H2 hs
            simp only [Option.some.injEq, Prod.mk.injEq] at h1
            rw [← h1.2]; exact stepOp_keeps hck hs
          · cases h1
        · simp only [Option.some.injEq, Prod.mk.injEq] at h1; rw [← h1.2]; exact Keep.refl _ _
        · cases h1
      exact hk.trans (runOps_keeps hck l h)
    · cases h

theorem stepI_keeps (hck : CallKeeps lim call) {ops : Array Oper} {n0 i : Nat} {s s1 : List TV × Hp} (h : stepI X f lim n0 call ops i s = some s1) : Keep lim s.2 s1.2 := by
  unfold stepI at h
  split at h
  · simp only [Option.some.injEq] at h; rw [← h]; exact Keep.refl _ _
  · split at h
    · split at h
      · split at h
        · rename_i x t2 H2 hs
          split at h
          · simp only [Option.some.injEq] at h; rw [← h]; exact stepOp_keeps hck hs
          · cases h
        · cases h
      · cases h
    · split at h
      · simp only [Option.some.injEq] at h; rw [← h]; exact Keep.refl _ _
      · cases h
    · cases h

theorem runI_keeps (hck : CallKeeps lim call) {ops : Array Oper} {n0 : Nat} : ∀ (l : List Nat) {s s1 : List TV × Hp}, runI X f lim n0 call ops l s = some s1 → Keep lim s.2 s1.2
  | [], s, s1, h => by simp only [runI, Option.some.injEq] at h; rw [← h]; exact Keep.refl _ _
  | i :: l, s, s1, h => by
    simp only [runI] at h
    split at h
    · rename_i s2 h1
      have hk := stepI_keeps hck h1
      exact hk.trans (runI_keeps hck l h)
    · cases h

theorem loopGo_keeps {ex : Run} (hex : RunKeeps lim ex) (ks : List Nat) (c : Code) : ∀ (k : Nat) (t : List TV) (H : Hp) (e : Ex) (t1 : List TV) (H1 : Hp), loopGo ex ks c k t H = some (e, t1, H1) → Keep lim H H1
  | 0, _, _, _, _, _, h => by cases h
  | k + 1, t, H, e, t1, H1, h => by
    unfold loopGo at h
    split at h
    · rename_i t' H' h1
      have hk := hex _ _ _ _ _ _ h1
      exact hk.trans (loopGo_keeps hex ks c k t' H' e t1 H1 h)
    · exact hex _ _ _ _ _ _ h
theorem scopeGo_keeps {ex : Run} (hex : RunKeeps lim ex) (c : Code) : ∀ (k : Nat) (cur : Code) (t : List TV) (H : Hp) (e : Ex) (t1 : List TV) (H1 : Hp), scopeGo ex c k cur t H = some (e, t1, H1) → Keep lim H H1
  | 0, _, _, _, _, _, _, h => by cases h
  | k + 1, cur, t, H, e, t1, H1, h => by
    unfold scopeGo at h
    split at h
    · rename_i l t' H' h1
      have hk := hex _ _ _ _ _ _ h1
      split at h
      · rename_i rest _
        exact hk.trans (scopeGo_keeps hex c k rest t' H' e t1 H1 h)
      · cases h
    · exact hex _ _ _ _ _ _ h

theorem exec_keeps : ∀ (n : Nat) (f : FuncId) (lim : Nat), RunKeeps lim (exec X n f lim) ∧ CallKeeps lim (callBy X lim (exec X n))
  | 0, f, lim => by
    have h0 : ∀ (g : FuncId) (l : Nat), RunKeeps l (exec X 0 g l) := by
      intro g l c t H e t1 H1 h; simp [exec] at h
    refine ⟨h0 f lim, ?_⟩
    intro g vs H r H1 h
    unfold callBy at h
    split at h
    · cases h
    · split at h
      · cases h
      · split at h
        · split at h
          · obtain ⟨v, h1, h2⟩ := Option.map_eq_some_iff.1 h
            simp only [Prod.mk.injEq] at h2; rw [← h2.2]; exact Keep.refl _ _
          · cases h
        · simp [exec] at h
  | n + 1, f, lim => by
    have ih := fun g l => exec_keeps n g l
    have hrun : ∀ (g : FuncId) (l : Nat), RunKeeps l (exec X (n + 1) g l) := by
      intro g l c t H e t1 H1 h
      unfold exec at h
      split at h
      · simp only [Option.some.injEq, Prod.mk.injEq] at h; rw [← h.2.2]; exact Keep.refl _ _
      · simp only [Option.some.injEq, Prod.mk.injEq] at h; rw [← h.2.2]; exact Keep.refl _ _
      · split at h
        · split at h
          · split at h
            · rename_i t' H' h1
              simp only [Option.some.injEq, Prod.mk.injEq] at h
              rw [← h.2.2]
              exact runI_keeps (ih g l).2 _ (s := (t, H)) (s1 := (t', H')) h1
            · cases h
          · cases h
        · split at h
          · rename_i t' H' h1
            simp only [Option.some.injEq, Prod.mk.injEq] at h
            rw [← h.2.2]
            exact runOps_keeps (ih g l).2 _ h1
          · cases h
      · split at h
        · rename_i t' H' h1
          have hk := (ih g l).1 _ _ _ _ _ _ h1
          exact hk.trans ((ih g l).1 _ _ _ _ _ _ h)
        · exact (ih g l).1 _ _ _ _ _ _ h
      · split at h
        · exact (ih g l).1 _ _ _ _ _ _ h
        · exact (ih g l).1 _ _ _ _ _ _ h
        · cases h
      · split at h
        · rename_i id' t' H' h1
          have hk := (ih g l).1 _ _ _ _ _ _ h1
          split at h <;> (simp only [Option.some.injEq, Prod.mk.injEq] at h; rw [← h.2.2]; exact hk)
        · exact (ih g l).1 _ _ _ _ _ _ h
      · exact loopGo_keeps (ih g l).1 _ _ _ _ _ _ _ _ h
      · exact scopeGo_keeps (ih g l).1 _ _ _ _ _ _ _ _ h
      · simp only [Option.some.injEq, Prod.mk.injEq] at h; rw [← h.2.2]; exact Keep.refl _ _
      · simp only [Option.some.injEq, Prod.mk.injEq] at h; rw [← h.2.2]; exact Keep.refl _ _
      · simp only [Option.some.injEq, Prod.mk.injEq] at h; rw [← h.2.2]; exact Keep.refl _ _
      · cases h
    refine ⟨hrun f lim, ?_⟩
    intro g vs H r H1 h
    unfold callBy at h
    split at h
    · cases h
    · split at h
      · cases h
      · split at h
        · split at h
          · obtain ⟨v, h1, h2⟩ := Option.map_eq_some_iff.1 h
            simp only [Prod.mk.injEq] at h2; rw [← h2.2]; exact Keep.refl _ _
          · cases h
        · have key : ∀ c0 t0 e t1 H2, exec X (n + 1) g (if X.pur g then H.length else lim) c0 t0 H = some (e, t1, H2) → Keep lim H H2 := by
            intro c0 t0 e t1 H2 hx
            have := hrun g _ _ _ _ _ _ _ hx
            refine ⟨this.1, fun b hb hl => this.2 b ?_ hl⟩
            split <;> omega
          split at h
          · rename_i t1 H2 hx
            obtain ⟨v, h1, h2⟩ := Option.map_eq_some_iff.1 h
            simp only [Prod.mk.injEq] at h2; rw [← h2.2]; exact key _ _ _ _ _ hx
          · rename_i t1 H2 hx
            obtain ⟨v, h1, h2⟩ := Option.map_eq_some_iff.1 h
            simp only [Prod.mk.injEq] at h2; rw [← h2.2]; exact key _ _ _ _ _ hx
          · cases h

/-- A function that is said to write nothing that was there writes nothing that was there. -/
def CallPure (X : Ctx) (call : CallF) : Prop := ∀ g vs H r H1, X.pur g = true → call g vs H = some (r, H1) → ∃ G, H1 = H ++ G
theorem callBy_pure (n lim : Nat) : CallPure X (callBy X lim (exec X n)) := by
  intro g vs H r H1 hp h
  unfold callBy at h
  split at h
  · cases h
  · split at h
    · cases h
    · split at h
      · split at h
        · obtain ⟨v, h1, h2⟩ := Option.map_eq_some_iff.1 h
          simp only [Prod.mk.injEq] at h2; exact ⟨[], by rw [← h2.2]; simp⟩
        · cases h
      · split at h
        · rename_i t1 H2 hx
          obtain ⟨v, h1, h2⟩ := Option.map_eq_some_iff.1 h
          simp only [Prod.mk.injEq] at h2; rw [← h2.2]
          exact ((exec_keeps n g H.length).1 _ _ _ _ _ _ hx).whole
        · rename_i t1 H2 hx
          obtain ⟨v, h1, h2⟩ := Option.map_eq_some_iff.1 h
          simp only [Prod.mk.injEq] at h2; rw [← h2.2]
          exact ((exec_keeps n g H.length).1 _ _ _ _ _ _ hx).whole
        · cases h
end
end Go.Proofs.Ytmgofjgfmcmceaa
end
section
namespace Go.Proofs.Ytmgofjgfmcmceaa
open Go.RowKit

section
variable {X : Ctx} {t t' : List TV} {H : Hp} {o : Oper} {f : FuncId} {lim n0 : Nat} {call : CallF} {ops : Array Oper}

/-- What an operation of the region yields, ahead of its slot. -/
def core (X : Ctx) (f : FuncId) (lim n0 : Nat) (call : CallF) (ops : Array Oper) (i : Nat) (o : Oper) (t : List TV) (H : Hp) : Option (TV × List TV × Hp) :=
  match wantA ops t o with
  | some true => if placeOk X f ops i n0 t o then stepOp X f lim call t H o else none
  | some false => some (.val undef, t, H)
  | none => none

theorem stepI_core {i : Nat} (ho : ops[i]? = some o) (s : List TV × Hp) : stepI X f lim n0 call ops i s = match core X f lim n0 call ops i o s.1 s.2 with
    | some (x, t1, H1) => if putOk (avoids X f ops i) s.1 o.dst x then some (putT t1 o.dst x, H1) else none
    | none => none := by
  unfold stepI core
  rw [ho]
  simp only
  cases hw : wantA ops s.1 o with
  | none => rfl
  | some b =>
    cases b
    · rfl
    · simp only
      split
      · cases stepOp X f lim call s.1 s.2 o <;> rfl
      · rfl

theorem stepI_some {i : Nat} (ho : ops[i]? = some o) {s s1 : List TV × Hp} (h : stepI X f lim n0 call ops i s = some s1) :
    ∃ x t1, core X f lim n0 call ops i o s.1 s.2 = some (x, t1, s1.2) ∧ putOk (avoids X f ops i) s.1 o.dst x = true ∧ s1.1 = putT t1 o.dst x := by
  rw [stepI_core ho] at h
  split at h
  · rename_i x t1 H1 hc
    split at h
    · rename_i hp
      simp only [Option.some.injEq] at h
      subst h
      exact ⟨x, t1, hc, hp, rfl⟩
    · cases h
  · cases h
theorem stepI_mk {i : Nat} (ho : ops[i]? = some o) {s : List TV × Hp} {x : TV} {t1 : List TV} {H1 : Hp} (hc : core X f lim n0 call ops i o s.1 s.2 = some (x, t1, H1)) (hp : putOk (avoids X f ops i) s.1 o.dst x = true) :
    stepI X f lim n0 call ops i s = some (putT t1 o.dst x, H1) := by
  rw [stepI_core ho, hc]
  simp only [hp, if_true]

/-! ### slots -/
theorem getD_put_ne {d : Nat} {dst : Option Tmp} {x : TV} (h : dst ≠ some d) : (putT t dst x).getD d .undef = t.getD d .undef := by
  cases dst with
  | none => rfl
  | some e =>
    have : e ≠ d := fun hh => h (by rw [hh])
    simp only [putT, List.getD_eq_getElem?_getD, List.getElem?_set_ne this]
theorem ev_put {dst : Option Tmp} {x : TV} {z : Operand} (h : ∀ d, dst = some d → z ≠ .tmp d) : ev X (putT t dst x) z = ev X t z := by
  cases z with
  | tmp i =>
    unfold Go.Proofs.Ytmgofjgfmcmceaa.ev
    dsimp only
    rw [getD_put_ne (fun hh => h i hh rfl)]
  | const v => rfl
  | global g => rfl
  | func g => rfl
theorem ev_setBox {d : Nat} {cs cs' : List Value} (h : t.getD d .undef = .box cs) (z : Operand) : ev X (t.set d (.box cs')) z = ev X t z := by
  cases z with
  | tmp i =>
    unfold Go.Proofs.Ytmgofjgfmcmceaa.ev
    dsimp only
    by_cases e : d = i
    · subst e
      have hlt : d < t.length := (List.getElem?_eq_some_iff.1 (getD_box h)).1
      have : (t.set d (TV.box cs')).getD d .undef = .box cs' := by simp [List.getD_eq_getElem?_getD, hlt]
      rw [this, h]
    · have : (t.set d (TV.box cs')).getD i .undef = t.getD i .undef := by simp only [List.getD_eq_getElem?_getD, List.getElem?_set_ne e]
      rw [this]
  | const v => rfl
  | global g => rfl
  | func g => rfl
theorem getD_set_ne {d e : Nat} {x : TV} (h : d ≠ e) : (t.set d x).getD e .undef = t.getD e .undef := by
  simp only [List.getD_eq_getElem?_getD, List.getElem?_set_ne h]

theorem mem_looks {z : Nat} (h : Operand.tmp z ∈ o.op.operands) : z ∈ Oper.looksAt ops o :=
  List.mem_append_left _ (List.mem_filterMap.2 ⟨.tmp z, by simpa using h, rfl⟩)
theorem guard_looks {j : Nat} {want : Bool} {d : Nat} (hg : o.guard = some (j, want)) (hd : (ops[j]?).bind (·.dst) = some d) : d ∈ Oper.looksAt ops o := by
  refine List.mem_append_right _ ?_
  rw [hg]
  simp only [hd]
  simp

/-- Another operation's slot is none that this one looks at. -/
theorem sameOps_put {dst : Option Tmp} {x : TV} (h : ∀ d, dst = some d → d ∉ Oper.looksAt ops o) : SameOps X t (putT t dst x) o :=
  fun z hz => ev_put fun d hd hzd => h d hd (mem_looks (by rw [← hzd]; exact hz))
theorem wantA_put {dst : Option Tmp} {x : TV} (h : ∀ d, dst = some d → d ∉ Oper.looksAt ops o) : wantA ops (putT t dst x) o = wantA ops t o := by
  unfold wantA
  cases hg : o.guard with
  | none => rfl
  | some p =>
    obtain ⟨j, want⟩ := p
    simp only
    cases hd : (ops[j]?).bind (·.dst) with
    | none => rfl
    | some d =>
      simp only
      rw [getD_put_ne (fun hh => h d hh (guard_looks hg hd))]
theorem wantA_setBox {d : Nat} {cs cs' : List Value} (h : t.getD d .undef = .box cs) : wantA ops (t.set d (.box cs')) o = wantA ops t o := by
  unfold wantA
  cases hg : o.guard with
  | none => rfl
  | some p =>
    obtain ⟨j, want⟩ := p
    simp only
    cases hd : (ops[j]?).bind (·.dst) with
    | none => rfl
    | some e =>
      simp only
      by_cases he : d = e
      · subst he
        have hlt : d < t.length := (List.getElem?_eq_some_iff.1 (getD_box h)).1
        have : (t.set d (TV.box cs')).getD d .undef = .box cs' := by simp [List.getD_eq_getElem?_getD, hlt]
        rw [this, h]
      · rw [getD_set_ne he]

theorem placeOk_same {i : Nat} (h : SameOps X t t' o) (hs : isStore o = false) : placeOk X f ops i n0 t' o = placeOk X f ops i n0 t o := by
  unfold placeOk
  cases hop : o.op with
  | load ty z => simp only [h z (by rw [hop]; simp [Op.operands])]
  | store ty z y => simp [isStore, hop] at hs
  | _ => rfl

/-- A load of the frame's own variable finds one. -/
theorem loadLoc_box {x : TV} {t1 : List TV} {H1 : Hp} (h : stepOp X f lim call t H o = some (x, t1, H1)) {d : Nat} (hd : loadLoc X t o = some d) : isBoxT (t.getD d .undef) = true := by
  unfold loadLoc at hd
  split at hd
  · rename_i ty z hop
    split at hd
    · rename_i d' off hp
      simp only [Option.some.injEq] at hd
      subst hd
      simp only [stepOp, hop, hp] at h
      split at h
      · rename_i cs hc; rw [hc]; rfl
      · cases h
    · cases hd
  · rename_i ty z y hop
    split at hd
    · rename_i d' off hp
      simp only [Option.some.injEq] at hd
      subst hd
      simp only [stepOp, hop, hp] at h
      cases hv : evv X t y with
      | none => simp [hv] at h
      | some v =>
        simp only [hv] at h
        split at h
        · rename_i cs hc; rw [hc]; rfl
        · cases h
    · cases hd
  · cases hd

theorem placeOf_loc {y : TV} {d off : Nat} (h : placeOf y = some (.loc d off)) : y = .lptr d off := by
  unfold placeOf at h
  split at h
  · simp only [Option.some.injEq, Pl.loc.injEq] at h; rw [h.1, h.2]
  · cases h
  · cases h

/-- Where a load's own variable comes from: a slot that it looks at leads there. -/
theorem loadLoc_slot {d : Nat} (hd : loadLoc X t o = some d) : ∃ e, e ∈ Oper.looksAt ops o ∧ (e = d ∨ ∃ q, t[e]? = some (TV.lptr d q)) := by
  have key : ∀ (z : Operand) (off : Nat), z ∈ o.op.operands → placeOf (ev X t z) = some (.loc d off) → ∃ e, e ∈ Oper.looksAt ops o ∧ (e = d ∨ ∃ q, t[e]? = some (TV.lptr d q)) := by
    intro z off hz hp
    have hp := placeOf_loc hp
    cases z with
    | tmp e =>
      refine ⟨e, mem_looks hz, ?_⟩
      unfold Go.Proofs.Ytmgofjgfmcmceaa.ev at hp
      dsimp only at hp
      rw [List.getD_eq_getElem?_getD] at hp
      cases ht : t[e]? with
      | none => rw [ht] at hp; cases hp
      | some u =>
        rw [ht] at hp
        cases u with
        | box cs => simp only [Option.getD_some, TV.lptr.injEq] at hp; exact .inl hp.1
        | lptr d' q => simp only [Option.getD_some, TV.lptr.injEq] at hp; exact .inr ⟨q, by rw [hp.1]⟩
        | undef => cases hp
        | val v => cases hp
    | const v =>
      unfold Go.Proofs.Ytmgofjgfmcmceaa.ev at hp
      dsimp only at hp
      split at hp <;> cases hp
    | global g =>
      unfold Go.Proofs.Ytmgofjgfmcmceaa.ev at hp
      dsimp only at hp
      split at hp <;> cases hp
    | func g => cases hp
  unfold loadLoc at hd
  split at hd
  · rename_i ty z hop
    split at hd
    · rename_i d' off hp
      simp only [Option.some.injEq] at hd
      subst hd
      exact key z off (by rw [hop]; simp [Op.operands]) hp
    · cases hd
  · rename_i ty z y hop
    split at hd
    · rename_i d' off hp
      simp only [Option.some.injEq] at hd
      subst hd
      exact key z off (by rw [hop]; simp [Op.operands]) hp
    · cases hd
  · cases hd

/-- What isn't a new variable yields none. -/
theorem stepOp_nobox (hv : isVar o = false) {x : TV} {t1 : List TV} {H1 : Hp} (h : stepOp X f lim call t H o = some (x, t1, H1)) : isBoxT x = false := by
  have evn : ∀ z, isBoxT (ev X t z) = false := by
    intro z
    cases z with
    | tmp e =>
      unfold Go.Proofs.Ytmgofjgfmcmceaa.ev
      dsimp only
      cases t.getD e .undef <;> rfl
    | const v => unfold Go.Proofs.Ytmgofjgfmcmceaa.ev; dsimp only; split <;> rfl
    | global g => unfold Go.Proofs.Ytmgofjgfmcmceaa.ev; dsimp only; split <;> rfl
    | func g => rfl
  have pln : ∀ p : Pl, isBoxT p.tv = false := by intro p; cases p <;> rfl
  cases hop : o.op with
  | alloc e => simp [isVar, hop] at hv
  | box e y => simp [isVar, hop] at hv
  | move y =>
    simp only [stepOp, hop, Option.some.injEq, Prod.mk.injEq] at h
    rw [← h.1]; exact evn y
  | assign y =>
    simp only [stepOp, hop, Option.some.injEq, Prod.mk.injEq] at h
    rw [← h.1]; exact evn y
  | pick c y z =>
    simp only [stepOp, hop] at h
    split at h
    · rename_i b _
      simp only [Option.some.injEq, Prod.mk.injEq] at h
      rw [← h.1]
      cases b
      · exact evn z
      · exact evn y
    · cases h
  | indexAddr ty y ix =>
    simp only [stepOp, hop] at h
    split at h
    · split at h
      · revert h
        generalize inB _ _ = bb
        intro h
        cases bb
        · cases h
        · simp only [cond_true, Option.some.injEq, Prod.mk.injEq] at h; rw [← h.1]; exact pln _
      · cases h
    · split at h
      · revert h
        generalize inB _ _ = bb
        intro h
        cases bb
        · cases h
        · simp only [cond_true, Option.some.injEq, Prod.mk.injEq] at h; rw [← h.1]; rfl
      · cases h
    · cases h
  | index ty y ix =>
    simp only [stepOp, hop] at h
    split at h
    · obtain ⟨v, h1, h2⟩ := map_val h; simp only [Prod.mk.injEq] at h2; rw [← h2.1]; rfl
    · split at h
      · split at h
        · revert h
          generalize inB _ _ = bb
          intro h
          cases bb
          · cases h
          · simp only [cond_true] at h
            obtain ⟨v, h1, h2⟩ := map_val h; simp only [Prod.mk.injEq] at h2; rw [← h2.1]; rfl
        · cases h
      · cases h
    · cases h
  | _ =>
    simp only [stepOp, hop] at h
    repeat' split at h
    all_goals first
      | (cases h; done)
      | (simp only [Option.some.injEq, Prod.mk.injEq] at h; rw [← h.1]; first | rfl | exact pln _)
      | (obtain ⟨v, h1, h2⟩ := map_val h; simp only [Prod.mk.injEq] at h2; rw [← h2.1]; rfl)
      | (obtain ⟨v, g1, g2, _⟩ := ofV_ok h; rw [g2]; rfl)
end
end Go.Proofs.Ytmgofjgfmcmceaa
end
section
namespace Go.Proofs.Ytmgofjgfmcmceaa
open Go.RowKit

section
variable {X : Ctx} {t t' : List TV} {H : Hp} {o : Oper} {f : FuncId} {lim n0 : Nat} {call : CallF} {ops : Array Oper} {i : Nat}

theorem newVar_congr {dst : Option Tmp} {cs : List Value} (hd : ∀ d, dst = some d → (X.loc f).contains d = false) : newVar X f t' H dst cs = (newVar X f t H dst cs).map fun r => (r.1, t', r.2.2) := by
  unfold newVar
  split
  · cases dst with
    | none => rfl
    | some d =>
      have := hd d rfl
      simp only [this, Bool.false_eq_true, if_false, Option.map_some]
  · rfl

theorem kind_store (h : isStore o = true) : kindOf X f o = .kl ∨ kindOf X f o = .ke := by
  unfold isStore at h
  split at h
  · rename_i ty z y hop
    cases z with
    | tmp d =>
      simp only [kindOf, hop]
      split
      · exact .inl rfl
      · exact .inr rfl
    | _ => exact .inr (by simp [kindOf, hop])
  · cases h
theorem kind_var (h : isVar o = true) : (∃ d, o.dst = some d ∧ ((X.loc f).contains d = true ∧ kindOf X f o = .ka ∨ (X.loc f).contains d = false ∧ kindOf X f o = .kc)) ∨ o.dst = none ∧ kindOf X f o = .ke := by
  unfold isVar at h
  split at h
  · rename_i e hop
    cases hd : o.dst with
    | none => exact .inr ⟨rfl, by simp [kindOf, hop, hd]⟩
    | some d =>
      refine .inl ⟨d, rfl, ?_⟩
      cases hc : (X.loc f).contains d with
      | true => refine .inl ⟨rfl, ?_⟩; simp only [kindOf, hop, hd, hc, if_true]
      | false => refine .inr ⟨rfl, ?_⟩; simp only [kindOf, hop, hd, hc, Bool.false_eq_true, if_false]
  · rename_i e y hop
    cases hd : o.dst with
    | none => exact .inr ⟨rfl, by simp [kindOf, hop, hd]⟩
    | some d =>
      refine .inl ⟨d, rfl, ?_⟩
      cases hc : (X.loc f).contains d with
      | true => refine .inl ⟨rfl, ?_⟩; simp only [kindOf, hop, hd, hc, if_true]
      | false => refine .inr ⟨rfl, ?_⟩; simp only [kindOf, hop, hd, hc, Bool.false_eq_true, if_false]
  · cases h

theorem var_nonloc (hv : isVar o = true) (hk : kindOf X f o ≠ .ka) : ∀ d, o.dst = some d → (X.loc f).contains d = false := by
  intro d hd
  rcases kind_var (X := X) (f := f) hv with ⟨d', hd', ⟨_, h⟩ | ⟨h, _⟩⟩ | ⟨hn, _⟩
  · exact absurd h hk
  · rw [hd] at hd'; cases hd'; exact h
  · rw [hd] at hn; cases hn

theorem stepOp_flat (h : SameOps X t t' o) (hst : isStore o = false) (hk : kindOf X f o ≠ .ka) (hl : ∀ d, loadLoc X t o = some d → t'.getD d .undef = t.getD d .undef) :
    stepOp X f lim call t' H o = (stepOp X f lim call t H o).map fun r => (r.1, t', r.2.2) := by
  cases hv : isVar o with
  | false => exact stepOp_congr h hst hv hl
  | true =>
    have hd := var_nonloc hv hk
    unfold isVar at hv
    split at hv
    · rename_i e hop
      simp only [stepOp, hop]
      split
      · split
        · exact newVar_congr hd
        · rfl
      · rfl
    · rename_i e y hop
      have e1 := h.evv (z := y) (by rw [hop]; simp [Op.operands])
      simp only [stepOp, hop, e1]
      split
      · exact newVar_congr hd
      · rfl
    · cases hv

/-- Not carried out, or no store and no new variable of the frame's own. -/
def Flat (X : Ctx) (f : FuncId) (ops : Array Oper) (t : List TV) (o : Oper) : Prop := wantA ops t o = some false ∨ (isStore o = false ∧ kindOf X f o ≠ .ka)

theorem core_flat (h : SameOps X t t' o) (hw : wantA ops t' o = wantA ops t o) (hf : Flat X f ops t o) (hl : wantA ops t o = some true → ∀ d, loadLoc X t o = some d → t'.getD d .undef = t.getD d .undef) :
    core X f lim n0 call ops i o t' H = (core X f lim n0 call ops i o t H).map fun r => (r.1, t', r.2.2) := by
  unfold core
  rw [hw]
  cases hwt : wantA ops t o with
  | none => rfl
  | some b =>
    cases b with
    | false => rfl
    | true =>
      rcases hf with hf | ⟨hst, hk⟩
      · rw [hwt] at hf; cases hf
      · simp only [placeOk_same h hst]
        split
        · exact stepOp_flat h hst hk (hl hwt)
        · rfl

theorem core_flat_t (hf : Flat X f ops t o) {x : TV} {t1 : List TV} {H1 : Hp} (h : core X f lim n0 call ops i o t H = some (x, t1, H1)) : t1 = t := by
  have := core_flat (i := i) (n0 := n0) (lim := lim) (call := call) (H := H) (t := t) (t' := t) (fun _ _ => rfl) rfl hf (fun _ _ _ => rfl)
  rw [h] at this
  simp only [Option.map_some, Option.some.injEq, Prod.mk.injEq] at this
  exact this.2.1

theorem core_true (hw : wantA ops t o = some true) {x : TV} {t1 : List TV} {H1 : Hp} (h : core X f lim n0 call ops i o t H = some (x, t1, H1)) : placeOk X f ops i n0 t o = true ∧ stepOp X f lim call t H o = some (x, t1, H1) := by
  unfold core at h
  rw [hw] at h
  simp only at h
  split at h
  · rename_i hp; exact ⟨hp, h⟩
  · cases h
theorem core_mk (hw : wantA ops t o = some true) {x : TV} {t1 : List TV} {H1 : Hp} (hp : placeOk X f ops i n0 t o = true) (h : stepOp X f lim call t H o = some (x, t1, H1)) : core X f lim n0 call ops i o t H = some (x, t1, H1) := by
  unfold core
  rw [hw]
  simp only [hp, if_true]
  exact h
theorem core_false (hw : wantA ops t o = some false) : core X f lim n0 call ops i o t H = some (.val undef, t, H) := by
  unfold core
  rw [hw]
theorem core_want {x : TV} {t1 : List TV} {H1 : Hp} (h : core X f lim n0 call ops i o t H = some (x, t1, H1)) : wantA ops t o = some true ∨ wantA ops t o = some false := by
  unfold core at h
  cases hw : wantA ops t o with
  | none => rw [hw] at h; cases h
  | some b => cases b <;> simp

theorem flat_of_kind (h : kindOf X f o = .k0 ∨ kindOf X f o = .k1 ∨ kindOf X f o = .ks ∨ kindOf X f o = .kc) : Flat X f ops t o := by
  refine .inr ⟨?_, fun hk => ?_⟩
  · cases hs : isStore o with
    | false => rfl
    | true => rcases kind_store (X := X) (f := f) hs with k | k <;> rw [k] at h <;> simp at h
  · rw [hk] at h; simp at h

theorem core_k0 (hk : wantA ops t o = some false ∨ kindOf X f o = .k0) {x : TV} {t1 : List TV} {H1 : Hp} (h : core X f lim n0 call ops i o t H = some (x, t1, H1)) : t1 = t ∧ H1 = H ∧ ∀ H', core X f lim n0 call ops i o t H' = some (x, t, H') := by
  rcases core_want h with hw | hw
  · have hk0 : kindOf X f o = .k0 := by
      rcases hk with hk | hk
      · rw [hw] at hk; cases hk
      · exact hk
    have ht := core_flat_t (flat_of_kind (.inl hk0)) h
    subst ht
    obtain ⟨hp, hs⟩ := core_true hw h
    have e := stepOp_k0 (lim := lim) (call := call) (t := t1) (H := H) hk0 H
    rw [hs] at e
    simp only [Option.map_some, Option.some.injEq, Prod.mk.injEq, true_and] at e
    refine ⟨rfl, e, fun H' => ?_⟩
    have e2 := stepOp_k0 (lim := lim) (call := call) (t := t1) (H := H) hk0 H'
    rw [hs] at e2
    exact core_mk hw hp e2
  · rw [core_false hw] at h
    simp only [Option.some.injEq, Prod.mk.injEq] at h
    obtain ⟨rfl, rfl, rfl⟩ := h
    exact ⟨rfl, rfl, fun H' => core_false hw⟩

theorem core_read (hk : kindOf X f o = .k1 ∨ kindOf X f o = .ks) {x : TV} {t1 : List TV} {H1 : Hp} (h : core X f lim n0 call ops i o t H = some (x, t1, H1)) : t1 = t ∧ H1 = H ∧ ∀ G, core X f lim n0 call ops i o t (H ++ G) = some (x, t, H ++ G) := by
  rcases core_want h with hw | hw
  · obtain ⟨hp, hs⟩ := core_true hw h
    obtain ⟨h1, h2, h3⟩ := stepOp_read hk hs
    exact ⟨h2, h1, fun G => core_mk hw hp (h3 G)⟩
  · rw [core_false hw] at h
    simp only [Option.some.injEq, Prod.mk.injEq] at h
    obtain ⟨rfl, rfl, rfl⟩ := h
    exact ⟨rfl, rfl, fun H' => core_false hw⟩

theorem stepOp_kc (cp : CallPure X call) (hk : kindOf X f o = .kc) {x : TV} {t1 : List TV} {H1 : Hp} (h : stepOp X f lim call t H o = some (x, t1, H1)) : ∃ G, H1 = H ++ G := by
  cases hv : isVar o with
  | true =>
    unfold isVar at hv
    split at hv
    · rename_i e hop
      simp only [stepOp, hop] at h
      split at h
      · split at h
        · rcases newVar_forms h with ⟨d, _, _, _, _, rfl, _⟩ | ⟨d, _, _, _, _, G, rfl⟩
          · exact ⟨[], by simp⟩
          · exact ⟨G, rfl⟩
        · cases h
      · cases h
    · rename_i e y hop
      simp only [stepOp, hop] at h
      split at h
      · rcases newVar_forms h with ⟨d, _, _, _, _, rfl, _⟩ | ⟨d, _, _, _, _, G, rfl⟩
        · exact ⟨[], by simp⟩
        · exact ⟨G, rfl⟩
      · cases h
    · cases hv
  | false =>
    cases hop : o.op with
    | alloc e => simp [isVar, hop] at hv
    | box e y => simp [isVar, hop] at hv
    | buildSlice ty len parts =>
      simp only [stepOp, hop] at h
      repeat' split at h
      all_goals first
        | (cases h; done)
        | (obtain ⟨v, g1, _, _⟩ := ofV_ok h; obtain ⟨G, rfl⟩ := newSlice_forms g1; exact ⟨G, rfl⟩)
    | makeSlice ty l c =>
      simp only [stepOp, hop] at h
      repeat' split at h
      all_goals first
        | (cases h; done)
        | (obtain ⟨v, g1, _, _⟩ := ofV_ok h; obtain ⟨G, rfl⟩ := newSlice_forms g1; exact ⟨G, rfl⟩)
    | convert s d z =>
      simp only [stepOp, hop] at h
      repeat' split at h
      all_goals first
        | (cases h; done)
        | (simp only [Option.some.injEq, Prod.mk.injEq] at h; rw [← h.2.2]; exact ⟨[], by simp⟩)
        | (obtain ⟨v, h1, h2⟩ := map_val h; simp only [Prod.mk.injEq] at h2; rw [← h2.2.2]; exact ⟨[], by simp⟩)
        | (obtain ⟨v, g1, _, _⟩ := ofV_ok h; obtain ⟨G, rfl⟩ := newSlice_forms g1; exact ⟨G, rfl⟩)
    | call c =>
      simp only [kindOf, hop] at hk
      split at hk
      · cases hk
      · cases hk
      · cases hk
      · rename_i g hcal
        split at hk
        · rename_i hg
          simp only [stepOp, hop, hcal] at h
          split at h
          · rename_i g' first captured vs e1 e2
            split at h
            · obtain ⟨v, g1, _, _⟩ := ofV_ok h
              have : g' = g := by
                simp only [Go.Proofs.Ytmgofjgfmcmceaa.evv, Go.Proofs.Ytmgofjgfmcmceaa.ev, Option.some.injEq, Value.func.injEq, Fn.func.injEq] at e1
                exact e1.1.symm
              subst this
              exact cp _ _ _ _ _ hg g1
            · cases h
          · cases h
        · cases hk
      · cases hk
    | slice ty x lo hi mx => simp only [kindOf, hop] at hk; split at hk <;> cases hk
    | store ty x y =>
      cases x with
      | tmp d => simp only [kindOf, hop] at hk; split at hk <;> cases hk
      | _ => simp [kindOf, hop] at hk
    | _ => simp [kindOf, hop] at hk

theorem core_kc (cp : CallPure X call) (hk : kindOf X f o = .kc) {x : TV} {t1 : List TV} {H1 : Hp} (h : core X f lim n0 call ops i o t H = some (x, t1, H1)) : ∃ G, H1 = H ++ G := by
  rcases core_want h with hw | hw
  · exact stepOp_kc cp hk (core_true hw h).2
  · rw [core_false hw] at h
    simp only [Option.some.injEq, Prod.mk.injEq] at h
    exact ⟨[], by rw [← h.2.2]; simp⟩

/-- A load that's guarded reads what was there. -/
theorem core_k1_back (hk : kindOf X f o = .k1) (hg : guardC X f ops i = true) (hn : n0 ≤ H.length) {G : Hp} {x : TV} {t1 : List TV} {H1 : Hp} (h : core X f lim n0 call ops i o t (H ++ G) = some (x, t1, H1)) : core X f lim n0 call ops i o t H = some (x, t, H) := by
  rcases core_want h with hw | hw
  · obtain ⟨hp, hs⟩ := core_true hw h
    obtain ⟨h1, h2, h3⟩ := stepOp_read (.inl hk) hs
    refine core_mk hw hp ?_
    cases hop : o.op with
    | load ty z =>
      simp only [placeOk, hop, hg] at hp
      simp only [stepOp, hop] at hs ⊢
      split at hs
      · rename_i d off hpl
        split at hs
        · obtain ⟨v, g1, g2⟩ := map_val hs
          simp only [Prod.mk.injEq] at g2
          simp only [g1, g2.1, Option.map_some]
        · cases hs
      · rename_i b off hpl
        simp only [hpl, Bool.not_true, Bool.false_or, decide_eq_true_eq] at hp
        rw [getO_ext G (Nat.lt_of_lt_of_le hp hn)] at hs
        split at hs
        · rename_i ob hb
          obtain ⟨v, g1, g2⟩ := map_val hs
          simp only [Prod.mk.injEq] at g2
          simp only [g1, g2.1, Option.map_some]
        · cases hs
      · cases hs
    | call c => simp only [kindOf, hop] at hk; split at hk <;> (try cases hk) <;> split at hk <;> cases hk
    | alloc e => simp only [kindOf, hop] at hk; (repeat' split at hk) <;> cases hk
    | box e x => simp only [kindOf, hop] at hk; (repeat' split at hk) <;> cases hk
    | slice ty x lo hi mx => simp only [kindOf, hop] at hk; split at hk <;> cases hk
    | convert s d z => simp only [kindOf, hop] at hk; (repeat' split at hk) <;> cases hk
    | store ty x y =>
      cases x with
      | tmp d => simp only [kindOf, hop] at hk; split at hk <;> cases hk
      | _ => simp [kindOf, hop] at hk
    | _ => simp [kindOf, hop] at hk
  · rw [core_false hw] at h ⊢
    simp only [Option.some.injEq, Prod.mk.injEq] at h
    rw [← h.1]

/-- What two operations do to memory, either way around. -/
theorem heap_comm {j : Nat} {x y : Oper} (cp : CallPure X call) (hm : (wantA ops t x = some false ∨ kindOf X f x = .k0) ∨ (wantA ops t y = some false ∨ kindOf X f y = .k0) ∨ mayPass (kindOf X f x) (kindOf X f y) = true) (hfx : Flat X f ops t x) (hfy : Flat X f ops t y)
    (hkx : wantA ops t x ≠ some false → kindOf X f x ≠ .ka ∧ kindOf X f x ≠ .kl) (hky : wantA ops t y ≠ some false → kindOf X f y ≠ .ka ∧ kindOf X f y ≠ .kl)
    (hg : kindOf X f x = .kc → guardC X f ops j = true) (hn : n0 ≤ H.length) {vx vy : TV} {t1 t2 : List TV} {H1 H2 : Hp} (h1 : core X f lim n0 call ops i x t H = some (vx, t1, H1)) (h2 : core X f lim n0 call ops j y t H1 = some (vy, t2, H2)) :
    ∃ H2', core X f lim n0 call ops j y t H = some (vy, t, H2') ∧ core X f lim n0 call ops i x t H2' = some (vx, t, H2) := by
  have e1 := core_flat_t hfx h1
  have e2 := core_flat_t hfy h2
  subst e1
  subst e2
  by_cases ha : wantA ops t2 x = some false ∨ kindOf X f x = .k0
  · obtain ⟨_, rfl, h3⟩ := core_k0 ha h1
    exact ⟨H2, h2, h3 H2⟩
  by_cases hb : wantA ops t2 y = some false ∨ kindOf X f y = .k0
  · obtain ⟨_, rfl, h3⟩ := core_k0 hb h2
    exact ⟨H, h3 H, h1⟩
  have hm := (hm.resolve_left ha).resolve_left hb
  have ha1 : wantA ops t2 x ≠ some false := fun h => ha (.inl h)
  have hb1 : wantA ops t2 y ≠ some false := fun h => hb (.inl h)
  have kx := hkx ha1
  have ky := hky hb1
  have kx0 : kindOf X f x ≠ .k0 := fun h => ha (.inr h)
  have ky0 : kindOf X f y ≠ .k0 := fun h => hb (.inr h)
  have read : ∀ (_ : kindOf X f x = .k1 ∨ kindOf X f x = .ks) (_ : kindOf X f y = .k1 ∨ kindOf X f y = .ks ∨ kindOf X f y = .kc), ∃ H2', core X f lim n0 call ops j y t2 H = some (vy, t2, H2') ∧ core X f lim n0 call ops i x t2 H2' = some (vx, t2, H2) := by
    intro q1 q2
    obtain ⟨_, rfl, h3⟩ := core_read q1 h1
    rcases q2 with q2 | q2 | q2
    · obtain ⟨_, rfl, h4⟩ := core_read (.inl q2) h2
      exact ⟨_, h2, h1⟩
    · obtain ⟨_, rfl, h4⟩ := core_read (.inr q2) h2
      exact ⟨_, h2, h1⟩
    · obtain ⟨G, rfl⟩ := core_kc cp q2 h2
      exact ⟨_, h2, h3 G⟩
  cases qx : kindOf X f x <;> cases qy : kindOf X f y <;> rw [qx, qy] at hm <;> first
    | (simp [mayPass] at hm; done)
    | exact absurd qx kx0
    | exact absurd qy ky0
    | exact absurd qx kx.1
    | exact absurd qx kx.2
    | exact absurd qy ky.1
    | exact absurd qy ky.2
    | exact read (.inl qx) (.inl qy)
    | exact read (.inl qx) (.inr (.inl qy))
    | exact read (.inl qx) (.inr (.inr qy))
    | exact read (.inr qx) (.inl qy)
    | exact read (.inr qx) (.inr (.inl qy))
    | exact read (.inr qx) (.inr (.inr qy))
    | skip
  -- a new object first, then a load
  obtain ⟨G, rfl⟩ := core_kc cp qx h1
  obtain ⟨_, e3, _⟩ := core_read (.inl qy) h2
  subst e3
  exact ⟨H, core_k1_back qy (hg qx) hn h2, h1⟩

theorem putOk_congr {av : List Nat} {dst : Option Tmp} {x : TV} (h : ∀ d, dst = some d → t'.getD d .undef = t.getD d .undef) : putOk av t' dst x = putOk av t dst x := by
  cases dst with
  | none => rfl
  | some d => simp only [putOk, h d rfl]

theorem put_comm {a b : Option Tmp} {x y : TV} (h : ∀ d, a = some d → b ≠ some d) : putT (putT t a x) b y = putT (putT t b y) a x := by
  cases a with
  | none => rfl
  | some d =>
    cases b with
    | none => rfl
    | some e => exact List.set_comm _ _ (fun hh => h d rfl (by rw [hh]))

theorem core_nobox (hf : Flat X f ops t o) {x : TV} {t1 : List TV} {H1 : Hp} (h : core X f lim n0 call ops i o t H = some (x, t1, H1)) : isBoxT x = false := by
  rcases core_want h with hw | hw
  · obtain ⟨hp, hs⟩ := core_true hw h
    rcases hf with hf | ⟨hst, hk⟩
    · rw [hw] at hf; cases hf
    · cases hv : isVar o with
      | false => exact stepOp_nobox hv hs
      | true =>
        have hd := var_nonloc hv hk
        have key : ∀ cs, newVar X f t H o.dst cs = some (x, t1, H1) → isBoxT x = false := by
          intro cs hh
          rcases newVar_forms hh with ⟨d, h1, h2, _⟩ | ⟨d, _, _, ⟨v, rfl⟩, _⟩
          · rw [hd d h1] at h2; cases h2
          · rfl
        unfold isVar at hv
        split at hv
        · rename_i e hop
          simp only [stepOp, hop] at hs
          split at hs
          · split at hs
            · exact key _ hs
            · cases hs
          · cases hs
        · rename_i e y hop
          simp only [stepOp, hop] at hs
          split at hs
          · exact key _ hs
          · cases hs
        · cases hv
  · rw [core_false hw] at h
    simp only [Option.some.injEq, Prod.mk.injEq] at h
    rw [← h.1]; rfl
end
end Go.Proofs.Ytmgofjgfmcmceaa
end
section
namespace Go.Proofs.Ytmgofjgfmcmceaa
open Go.RowKit

section
variable {X : Ctx} {t t' : List TV} {H : Hp} {o : Oper} {f : FuncId} {lim n0 : Nat} {call : CallF} {ops : Array Oper} {i j : Nat} {x y : Oper}

/-- The order of two operations is open. -/
structure OpenAt (X : Ctx) (f : FuncId) (ops : Array Oper) (i j : Nat) (x y : Oper) : Prop where
  hx : ops[i]? = some x
  hy : ops[j]? = some y
  a1 : ∀ d, x.dst = some d → d ∉ Oper.looksAt ops y
  a2 : ∀ d, x.dst = some d → y.dst ≠ some d
  a3 : ∀ d, y.dst = some d → d ∉ Oper.looksAt ops x
  mp : mayPass (kindOf X f x) (kindOf X f y) = true
  gc : kindOf X f x = .kc → guardC X f ops j = true
  gl1 : kindOf X f x = .kl → guardL X f ops j = true
  gl2 : kindOf X f y = .kl → guardL X f ops i = true
  av1 : kindOf X f x = .ka → ∀ d, x.dst = some d → d ∈ avoids X f ops j
  av2 : kindOf X f y = .ka → ∀ d, y.dst = some d → d ∈ avoids X f ops i
  sx : isStore x = true → x.dst = none
  sy : isStore y = true → y.dst = none

theorem flat_kinds (hf : Flat X f ops t o) (hne : wantA ops t o ≠ some false) : kindOf X f o ≠ .ka ∧ kindOf X f o ≠ .kl := by
  rcases hf with hf | ⟨h1, h2⟩
  · exact absurd hf hne
  · refine ⟨h2, fun hk => ?_⟩
    -- a store alone is of that kind
    have : isStore o = true := by
      cases hop : o.op with
      | store ty a b => simp [isStore, hop]
      | call c => simp only [kindOf, hop] at hk; split at hk <;> (try cases hk) <;> split at hk <;> cases hk
      | alloc e => simp only [kindOf, hop] at hk; (repeat' split at hk) <;> cases hk
      | box e x => simp only [kindOf, hop] at hk; (repeat' split at hk) <;> cases hk
      | slice ty x lo hi mx => simp only [kindOf, hop] at hk; split at hk <;> cases hk
      | convert s d z => simp only [kindOf, hop] at hk; (repeat' split at hk) <;> cases hk
      | _ => simp [kindOf, hop] at hk
    rw [h1] at this; cases this

/-- Two that store nothing and make no variable of the frame's own. -/
theorem swap_flat (q : OpenAt X f ops i j x y) (cp : CallPure X call) {s s1 s2 : List TV × Hp} (hn : n0 ≤ s.2.length) (hfx : Flat X f ops s.1 x) (hfy : Flat X f ops s.1 y)
    (h1 : stepI X f lim n0 call ops i s = some s1) (h2 : stepI X f lim n0 call ops j s1 = some s2) : ∃ s1', stepI X f lim n0 call ops j s = some s1' ∧ stepI X f lim n0 call ops i s1' = some s2 := by
  obtain ⟨t, H⟩ := s
  obtain ⟨T1, H1⟩ := s1
  obtain ⟨T2, H2⟩ := s2
  obtain ⟨vx, tx, hcx, hpx, e1⟩ := stepI_some q.hx h1
  obtain ⟨vy, ty, hcy, hpy, e2⟩ := stepI_some q.hy h2
  simp only at hcx hpx e1 hcy hpy e2 hn hfx hfy
  have := core_flat_t hfx hcx
  subst this
  subst e1
  have hwy : wantA ops (putT tx x.dst vx) y = wantA ops tx y := wantA_put q.a1
  have hsy : SameOps X tx (putT tx x.dst vx) y := sameOps_put q.a1
  have hfy' : Flat X f ops (putT tx x.dst vx) y := by unfold Flat; rw [hwy]; exact hfy
  have := core_flat_t hfy' hcy
  subst this
  subst e2
  have bx := core_nobox hfx hcx
  have by' := core_nobox hfy' hcy
  -- the second, carried out first
  have hcy0 : core X f lim n0 call ops j y tx H1 = some (vy, tx, H2) := by
    have := core_flat (i := j) (lim := lim) (n0 := n0) (call := call) (H := H1) hsy.symm hwy.symm hfy' (fun hw d hd => by
      have hb := loadLoc_box (core_true hw hcy).2 hd
      have : x.dst ≠ some d := by
        intro hxd
        rw [hxd] at hb
        simp only [putT, List.getD_eq_getElem?_getD] at hb
        rcases Nat.lt_or_ge d tx.length with hlt | hge
        · simp only [List.getElem?_set_self hlt, Option.getD_some, bx] at hb; cases hb
        · rw [List.getElem?_eq_none (by simpa using hge)] at hb; cases hb
      exact (getD_put_ne this).symm)
    rw [this, hcy]; rfl
  obtain ⟨H2', c1, c2⟩ := heap_comm cp (.inr (.inr q.mp)) hfx hfy (flat_kinds hfx) (flat_kinds hfy) q.gc hn hcx hcy0
  · have hpy' : putOk (avoids X f ops j) tx y.dst vy = true := by
      rw [← hpy]
      exact (putOk_congr fun d hd => getD_put_ne fun hh => q.a2 d hh hd).symm
    have hpx' : putOk (avoids X f ops i) (putT tx y.dst vy) x.dst vx = true := by
      rw [← hpx]
      exact putOk_congr fun d hd => getD_put_ne fun hh => q.a2 d hd hh
    refine ⟨_, stepI_mk q.hy (s := (tx, H)) c1 hpy', ?_⟩
    have hwx : wantA ops (putT tx y.dst vy) x = wantA ops tx x := wantA_put q.a3
    have hsx : SameOps X tx (putT tx y.dst vy) x := sameOps_put q.a3
    have hcx1 : core X f lim n0 call ops i x (putT tx y.dst vy) H2' = some (vx, putT tx y.dst vy, H2) := by
      have := core_flat (i := i) (lim := lim) (n0 := n0) (call := call) (H := H2') hsx hwx hfx (fun hw d hd => by
        have hb := loadLoc_box (core_true hw c2).2 hd
        refine getD_put_ne fun hh => ?_
        rw [hh] at hpy'
        simp only [putOk, by', hb, Bool.not_true, Bool.or_self, Bool.false_and, Bool.false_eq_true] at hpy')
      rw [this, c2]; rfl
    rw [stepI_mk q.hx (s := (putT tx y.dst vy, H2')) hcx1 hpx', put_comm q.a2]

/-- A new variable of the frame's own. -/
theorem core_ka (hk : kindOf X f o = .ka) (hw : wantA ops t o = some true) {v : TV} {t1 : List TV} {H1 : Hp} (h : core X f lim n0 call ops i o t H = some (v, t1, H1)) :
    ∃ d cs, o.dst = some d ∧ v = .box cs ∧ t1 = t ∧ H1 = H ∧ (∀ (e r : Nat), t[e]? ≠ some (TV.lptr d r)) ∧
      ∀ t', SameOps X t t' o → wantA ops t' o = some true → (∀ (e r : Nat), t'[e]? ≠ some (TV.lptr d r)) → ∀ H', core X f lim n0 call ops i o t' H' = some (.box cs, t', H') := by
  obtain ⟨hp, hs⟩ := core_true hw h
  have mk : ∀ (cs : List Value), newVar X f t H o.dst cs = some (v, t1, H1) → ∃ d, o.dst = some d ∧ v = .box cs ∧ t1 = t ∧ H1 = H ∧ (∀ (e r : Nat), t[e]? ≠ some (TV.lptr d r)) ∧
      ∀ t', (∀ (e r : Nat), t'[e]? ≠ some (TV.lptr d r)) → ∀ H', newVar X f t' H' o.dst cs = some (.box cs, t', H') := by
    intro cs hh
    have hall : cs.all isCell = true := by
      unfold newVar at hh
      split at hh
      · assumption
      · cases hh
    rcases newVar_forms hh with ⟨d, h1, h2, rfl, rfl, rfl, h3⟩ | ⟨d, h1, h2, _⟩
    · refine ⟨d, h1, rfl, rfl, rfl, h3, fun t' ht' H' => ?_⟩
      unfold newVar
      simp only [hall, if_true, h1, h2]
      refine if_pos ?_
      rw [List.all_eq_true]
      intro z hz
      obtain ⟨e, he⟩ := List.mem_iff_getElem?.1 hz
      cases z with
      | lptr d' r =>
        simp only [bne_iff_ne, ne_eq]
        rintro rfl
        exact ht' e r he
      | _ => rfl
    · -- the slot is one of the frame's own
      unfold kindOf at hk
      split at hk <;> (try cases hk)
      all_goals (try (simp only [h1, h2, Bool.false_eq_true, if_false] at hk; cases hk))
      all_goals ((repeat' split at hk) <;> cases hk)
  cases hop : o.op with
  | alloc e =>
    simp only [stepOp, hop] at hs
    split at hs
    · rename_i z hz
      split at hs
      · rename_i hnr
        obtain ⟨d, h1, h2, h3, h4, h5, h6⟩ := mk _ hs
        refine ⟨d, _, h1, h2, h3, h4, h5, fun t' hS hw' ht' H' => core_mk hw' (by simp [placeOk, hop]) ?_⟩
        simp only [stepOp, hop, hz]
        rw [if_pos hnr]
        exact h6 t' ht' H'
      · cases hs
    · cases hs
  | box e y =>
    simp only [stepOp, hop] at hs
    split at hs
    · rename_i u hu
      obtain ⟨d, h1, h2, h3, h4, h5, h6⟩ := mk _ hs
      refine ⟨d, _, h1, h2, h3, h4, h5, fun t' hS hw' ht' H' => core_mk hw' (by simp [placeOk, hop]) ?_⟩
      have e1 := hS.evv (z := y) (by rw [hop]; simp [Op.operands])
      simp only [stepOp, hop, e1, hu]
      exact h6 t' ht' H'
    · cases hs
  | call c => simp only [kindOf, hop] at hk; split at hk <;> (try cases hk) <;> split at hk <;> cases hk
  | slice ty x lo hi mx => simp only [kindOf, hop] at hk; split at hk <;> cases hk
  | convert s d z => simp only [kindOf, hop] at hk; (repeat' split at hk) <;> cases hk
  | store ty x y =>
    cases x with
    | tmp d => simp only [kindOf, hop] at hk; split at hk <;> cases hk
    | _ => simp [kindOf, hop] at hk
  | _ => simp [kindOf, hop] at hk

theorem noLptr_put {d : Nat} {dst : Option Tmp} {v : TV} (h : ∀ (e r : Nat), t[e]? ≠ some (TV.lptr d r)) (hv : ∀ r, dst ≠ none → v ≠ .lptr d r) : ∀ (e r : Nat), (putT t dst v)[e]? ≠ some (TV.lptr d r) := by
  intro e r he
  cases dst with
  | none => exact h e r he
  | some k =>
    simp only [putT] at he
    rw [List.getElem?_set] at he
    split at he
    · split at he
      · simp only [Option.some.injEq] at he; exact hv r (by simp) he
      · cases he
    · exact h e r he

theorem putOk_noLptr {av : List Nat} {d : Nat} (hd : d ∈ av) {dst : Option Tmp} {v : TV} (h : putOk av t dst v = true) : (∀ r, dst ≠ none → v ≠ .lptr d r) ∧ (∀ k r, dst = some k → t[k]? ≠ some (TV.lptr d r)) := by
  cases dst with
  | none => exact ⟨fun r h => absurd rfl h, by simp⟩
  | some k =>
    simp only [putOk, Bool.and_eq_true, Bool.not_eq_true'] at h
    refine ⟨fun r _ hv => ?_, fun k' r hk ht => ?_⟩
    · rw [hv] at h; simp [lptrIn, hd] at h
    · cases hk
      have : t.getD k .undef = .lptr d r := by simp [List.getD_eq_getElem?_getD, ht]
      rw [this] at h; simp [lptrIn, hd] at h

/-- A new variable of the frame's own comes first. -/
theorem swap_ka1 (q : OpenAt X f ops i j x y) {s s1 s2 : List TV × Hp} (hk : kindOf X f x = .ka) (hwx : wantA ops s.1 x = some true) (hfy : Flat X f ops s.1 y)
    (h1 : stepI X f lim n0 call ops i s = some s1) (h2 : stepI X f lim n0 call ops j s1 = some s2) : ∃ s1', stepI X f lim n0 call ops j s = some s1' ∧ stepI X f lim n0 call ops i s1' = some s2 := by
  obtain ⟨t, H⟩ := s
  obtain ⟨T1, H1⟩ := s1
  obtain ⟨T2, H2⟩ := s2
  obtain ⟨vx, tx, hcx, hpx, e1⟩ := stepI_some q.hx h1
  obtain ⟨vy, ty, hcy, hpy, e2⟩ := stepI_some q.hy h2
  simp only at hcx hpx e1 hcy hpy e2 hfy hwx
  obtain ⟨d, cs, hd, rfl, rfl, rfl, hno, hmk⟩ := core_ka hk hwx hcx
  subst e1
  have hwy : wantA ops (putT tx x.dst (.box cs)) y = wantA ops tx y := wantA_put q.a1
  have hsy : SameOps X tx (putT tx x.dst (.box cs)) y := sameOps_put q.a1
  have hfy' : Flat X f ops (putT tx x.dst (.box cs)) y := by unfold Flat; rw [hwy]; exact hfy
  have := core_flat_t hfy' hcy
  subst this
  subst e2
  have hne : ∀ e, loadLoc X (putT tx x.dst (.box cs)) y = some e → x.dst ≠ some e := by
    intro e he hxe
    obtain ⟨k, hk1, hk2⟩ := loadLoc_slot (ops := ops) he
    rcases hk2 with rfl | ⟨r, hr⟩
    · exact q.a1 _ hxe hk1
    · rw [hd] at hxe; cases hxe
      refine noLptr_put (v := TV.box cs) (dst := x.dst) hno (fun r _ => by simp) k r hr
  have hcy0 : core X f lim n0 call ops j y tx H1 = some (vy, tx, H2) := by
    have := core_flat (i := j) (lim := lim) (n0 := n0) (call := call) (H := H1) hsy.symm hwy.symm hfy' (fun hw e he => (getD_put_ne (hne e he)).symm)
    rw [this, hcy]; rfl
  have hpy' : putOk (avoids X f ops j) tx y.dst vy = true := by
    rw [← hpy]
    exact (putOk_congr fun d hd => getD_put_ne fun hh => q.a2 d hh hd).symm
  have hpx' : putOk (avoids X f ops i) (putT tx y.dst vy) x.dst (.box cs) = true := by
    rw [← hpx]
    exact putOk_congr fun d hd => getD_put_ne fun hh => q.a2 d hd hh
  refine ⟨_, stepI_mk q.hy (s := (tx, H1)) hcy0 hpy', ?_⟩
  have hcx1 := hmk (putT tx y.dst vy) (sameOps_put q.a3) (by rw [wantA_put q.a3]; exact hwx) (noLptr_put hno (putOk_noLptr (q.av1 hk d hd) hpy').1) H2
  rw [stepI_mk q.hx (s := (putT tx y.dst vy, H2)) hcx1 hpx', put_comm q.a2]

/-- It comes second. -/
theorem swap_ka2 (q : OpenAt X f ops i j x y) {s s1 s2 : List TV × Hp} (hk : kindOf X f y = .ka) (hwy : wantA ops s.1 y = some true) (hfx : Flat X f ops s.1 x)
    (h1 : stepI X f lim n0 call ops i s = some s1) (h2 : stepI X f lim n0 call ops j s1 = some s2) : ∃ s1', stepI X f lim n0 call ops j s = some s1' ∧ stepI X f lim n0 call ops i s1' = some s2 := by
  obtain ⟨t, H⟩ := s
  obtain ⟨T1, H1⟩ := s1
  obtain ⟨T2, H2⟩ := s2
  obtain ⟨vx, tx, hcx, hpx, e1⟩ := stepI_some q.hx h1
  obtain ⟨vy, ty, hcy, hpy, e2⟩ := stepI_some q.hy h2
  simp only at hcx hpx e1 hcy hpy e2 hfx hwy
  have := core_flat_t hfx hcx
  subst this
  subst e1
  have hwy' : wantA ops (putT tx x.dst vx) y = some true := by rw [wantA_put q.a1]; exact hwy
  have hsy : SameOps X tx (putT tx x.dst vx) y := sameOps_put q.a1
  obtain ⟨d, cs, hd, rfl, rfl, rfl, hno, hmk⟩ := core_ka hk hwy' hcy
  subst e2
  have hav := putOk_noLptr (q.av2 hk d hd) hpx
  have hno0 : ∀ (e r : Nat), tx[e]? ≠ some (TV.lptr d r) := by
    intro e r he
    by_cases hxe : x.dst = some e
    · exact hav.2 e r hxe he
    · refine hno e r ?_
      cases hxd : x.dst with
      | none => rw [hxd] at hno; exact he
      | some k =>
        simp only [putT]
        rw [List.getElem?_set_ne (by rintro rfl; exact hxe hxd)]; exact he
  have hcy0 := hmk tx hsy.symm hwy hno0 H
  have hpy' : putOk (avoids X f ops j) tx y.dst (.box cs) = true := by
    rw [← hpy]
    exact (putOk_congr fun d hd => getD_put_ne fun hh => q.a2 d hh hd).symm
  have hpx' : putOk (avoids X f ops i) (putT tx y.dst (.box cs)) x.dst vx = true := by
    rw [← hpx]
    exact putOk_congr fun d hd => getD_put_ne fun hh => q.a2 d hd hh
  refine ⟨_, stepI_mk q.hy (s := (tx, H)) hcy0 hpy', ?_⟩
  have hcx1 : core X f lim n0 call ops i x (putT tx y.dst (.box cs)) H = some (vx, putT tx y.dst (.box cs), H2) := by
    have := core_flat (i := i) (lim := lim) (n0 := n0) (call := call) (H := H) (sameOps_put (t := tx) (dst := y.dst) (x := .box cs) q.a3) (wantA_put q.a3) hfx (fun hw e he => by
      refine getD_put_ne fun hh => ?_
      obtain ⟨k, hk1, hk2⟩ := loadLoc_slot (ops := ops) he
      rcases hk2 with rfl | ⟨r, hr⟩
      · exact q.a3 _ hh hk1
      · rw [hd] at hh; cases hh
        exact hno0 k r hr)
    rw [this, hcx]; rfl
  rw [stepI_mk q.hx (s := (putT tx y.dst (.box cs), H)) hcx1 hpx', put_comm q.a2]
end
end Go.Proofs.Ytmgofjgfmcmceaa
end
section
namespace Go.Proofs.Ytmgofjgfmcmceaa
open Go.RowKit

section
variable {X : Ctx} {t t' : List TV} {H : Hp} {o : Oper} {f : FuncId} {lim n0 : Nat} {call : CallF} {ops : Array Oper} {i j : Nat} {x y : Oper}

theorem core_store (hst : isStore o = true) (hw : wantA ops t o = some true) {v : TV} {t1 : List TV} {H1 : Hp} (h : core X f lim n0 call ops i o t H = some (v, t1, H1)) :
    v = .val undef ∧
    ((t1 = t ∧ kindOf X f o = .ke ∧ ∀ t', SameOps X t t' o → wantA ops t' o = some true → core X f lim n0 call ops i o t' H = some (.val undef, t', H1)) ∨
     (∃ d cs cs', t.getD d .undef = .box cs ∧ t1 = t.set d (.box cs') ∧ H1 = H ∧ ∀ t' H', SameOps X t t' o → wantA ops t' o = some true → t'.getD d .undef = .box cs → core X f lim n0 call ops i o t' H' = some (.val undef, t'.set d (.box cs'), H'))) := by
  obtain ⟨hp, hs⟩ := core_true hw h
  unfold isStore at hst
  split at hst
  · rename_i ty z y hop
    simp only [stepOp, hop] at hs
    split at hs
    · rename_i d off u hpl hu
      split at hs
      · rename_i cs hcs
        obtain ⟨cs', g1, g2⟩ := map_val hs
        simp only [Prod.mk.injEq] at g2
        obtain ⟨rfl, rfl, rfl⟩ := g2
        refine ⟨rfl, .inr ⟨d, cs, cs', hcs, rfl, rfl, fun t' H' hS hw' hd' => core_mk hw' ?_ ?_⟩⟩
        · cases z with
          | tmp e =>
            simp only [placeOk, hop] at hp ⊢
            split
            · rename_i hc
              rw [if_pos hc] at hp
              have : e = d := by
                have := placeOf_loc hpl
                unfold Go.Proofs.Ytmgofjgfmcmceaa.ev at this
                dsimp only at this
                cases hte : t.getD e .undef with
                | box cs0 => rw [hte] at this; simp only [TV.lptr.injEq] at this; exact this.1
                | _ => rw [hte] at hp; cases hp
              subst this
              rw [hd']; rfl
            · rfl
          | _ => simp [placeOk, hop]
        · have e1 := hS z (by rw [hop]; simp [Op.operands])
          have e2 := hS.evv (z := y) (by rw [hop]; simp [Op.operands])
          simp only [stepOp, hop, e1, e2, hpl, hu, hd', g1, Option.map_some]
      · cases hs
    · rename_i b off u hpl hu
      split at hs
      · rename_i ob hb
        split at hs
        · rename_i hcond
          obtain ⟨cs', g1, g2⟩ := map_val hs
          simp only [Prod.mk.injEq] at g2
          obtain ⟨rfl, rfl, rfl⟩ := g2
          have hke : kindOf X f o = .ke ∧ ∀ t', placeOk X f ops i n0 t' o = true := by
            cases z with
            | tmp e =>
              have hc : (X.loc f).contains e = false := by
                cases hc : (X.loc f).contains e with
                | false => rfl
                | true =>
                  simp only [placeOk, hop, hc, if_true] at hp
                  unfold Go.Proofs.Ytmgofjgfmcmceaa.ev at hpl
                  dsimp only at hpl
                  cases hte : t.getD e .undef with
                  | box cs0 => rw [hte] at hpl; simp [placeOf] at hpl
                  | _ => rw [hte] at hp; cases hp
              exact ⟨by simp only [kindOf, hop, hc, Bool.false_eq_true, if_false], fun t' => by simp only [placeOk, hop, hc, Bool.false_eq_true, if_false]⟩
            | _ => exact ⟨by simp [kindOf, hop], fun t' => by simp [placeOk, hop]⟩
          refine ⟨rfl, .inl ⟨rfl, hke.1, fun t' hS hw' => core_mk hw' (hke.2 t') ?_⟩⟩
          have e1 := hS z (by rw [hop]; simp [Op.operands])
          have e2 := hS.evv (z := y) (by rw [hop]; simp [Op.operands])
          simp only [stepOp, hop, e1, e2, hpl, hu, hb]
          rw [if_pos hcond, g1]; rfl
        · cases hs
      · cases hs
    · cases hs
  · cases hst

/-- What reads slots alone, or one object's cell, past a store to the frame's own. -/
theorem loadLoc_k0 (hk : kindOf X f o = .k0) : loadLoc X t o = none := by
  unfold loadLoc
  split
  · rename_i ty z hop; simp [kindOf, hop] at hk
  · rename_i ty z y hop
    rcases kind_store (X := X) (f := f) (o := o) (by simp [isStore, hop]) with h | h <;> rw [h] at hk <;> cases hk
  · rfl
theorem loadLoc_guard (hk : kindOf X f o = .k1) (hg : guardL X f ops i = true) (hp : placeOk X f ops i n0 t o = true) : loadLoc X t o = none := by
  unfold loadLoc
  split
  · rename_i ty z hop
    simp only [placeOk, hop, hg] at hp
    split
    · rename_i d off hpl
      rw [hpl] at hp; cases hp
    · rfl
  · rename_i ty z y hop
    rcases kind_store (X := X) (f := f) (o := o) (by simp [isStore, hop]) with h | h <;> rw [h] at hk <;> cases hk
  · rfl

/-- Past a box's new cells. -/
theorem core_setBox {d : Nat} {cs cs' : List Value} (hd : t.getD d .undef = .box cs) (hk : kindOf X f o = .k0 ∨ kindOf X f o = .k1 ∧ guardL X f ops i = true) (hf : Flat X f ops t o) :
    core X f lim n0 call ops i o (t.set d (.box cs')) H = (core X f lim n0 call ops i o t H).map fun r => (r.1, t.set d (.box cs'), r.2.2) := by
  cases hc : core X f lim n0 call ops i o t H with
  | none =>
    -- the same answer: none
    unfold core at hc ⊢
    rw [wantA_setBox hd]
    cases hw : wantA ops t o with
    | none => rfl
    | some b =>
      rw [hw] at hc
      cases b with
      | false => cases hc
      | true =>
        have hst : isStore o = false := by
          rcases hf with hf | hf
          · rw [hw] at hf; cases hf
          · exact hf.1
        simp only [placeOk_same (t := t) (t' := t.set d (.box cs')) (fun z _ => ev_setBox hd z) hst] at hc ⊢
        split at hc
        · rename_i hp
          rw [if_pos hp]
          have hl : loadLoc X t o = none := by
            rcases hk with hk | ⟨hk, hg⟩
            · exact loadLoc_k0 hk
            · exact loadLoc_guard hk hg hp
          rw [stepOp_flat (t := t) (fun z _ => ev_setBox hd z) hst (by rcases hk with hk | ⟨hk, _⟩ <;> rw [hk] <;> simp) (by rw [hl]; intro e he; cases he), hc]
        · rename_i hp
          rw [if_neg hp]; rfl
  | some r =>
    obtain ⟨v, t1, H1⟩ := r
    rw [← hc]
    refine core_flat (fun z _ => ev_setBox hd z) (wantA_setBox hd) hf fun hw e he => ?_
    have hl : loadLoc X t o = none := by
      rcases hk with hk | ⟨hk, hg⟩
      · exact loadLoc_k0 hk
      · exact loadLoc_guard hk hg (core_true hw hc).1
    rw [hl] at he; cases he

theorem nobox_ne {d : Nat} {dst : Option Tmp} {v : TV} {cs : List Value} (h : (putT t dst v).getD d .undef = .box cs) (hv : isBoxT v = false) : dst ≠ some d ∧ t.getD d .undef = .box cs := by
  have hne : dst ≠ some d := by
    rintro rfl
    simp only [putT, List.getD_eq_getElem?_getD] at h
    rcases Nat.lt_or_ge d t.length with hlt | hge
    · simp only [List.getElem?_set_self hlt, Option.getD_some] at h; rw [h] at hv; cases hv
    · rw [List.getElem?_eq_none (by simpa using hge)] at h; cases h
  exact ⟨hne, by rw [← getD_put_ne hne]; exact h⟩

theorem getD_setBox {d : Nat} {cs cs' : List Value} (h : t.getD d .undef = .box cs) : (t.set d (TV.box cs')).getD d .undef = .box cs' := by
  have hlt : d < t.length := (List.getElem?_eq_some_iff.1 (getD_box h)).1
  simp [List.getD_eq_getElem?_getD, hlt]

/-- A store comes first. -/
theorem swap_st1 (q : OpenAt X f ops i j x y) {s s1 s2 : List TV × Hp} (hst : isStore x = true) (hwx : wantA ops s.1 x = some true)
    (h1 : stepI X f lim n0 call ops i s = some s1) (h2 : stepI X f lim n0 call ops j s1 = some s2) : ∃ s1', stepI X f lim n0 call ops j s = some s1' ∧ stepI X f lim n0 call ops i s1' = some s2 := by
  obtain ⟨t, H⟩ := s
  obtain ⟨T1, H1⟩ := s1
  obtain ⟨T2, H2⟩ := s2
  obtain ⟨vx, tx, hcx, hpx, e1⟩ := stepI_some q.hx h1
  obtain ⟨vy, ty, hcy, hpy, e2⟩ := stepI_some q.hy h2
  simp only at hcx hpx e1 hcy hpy e2 hwx
  rw [q.sx hst] at e1 hpx
  simp only [putT] at e1
  subst e1
  have hky : kindOf X f y = .k0 ∨ kindOf X f y = .k1 ∧ kindOf X f x = .kl := by
    have := q.mp
    rcases kind_store (X := X) (f := f) hst with k | k <;> rw [k] at this <;> cases hy : kindOf X f y <;> rw [hy] at this <;> simp_all [mayPass]
  have hfy : ∀ u, Flat X f ops u y := fun u => flat_of_kind (by rcases hky with k | ⟨k, _⟩ <;> simp [k])
  have := core_flat_t (hfy _) hcy
  subst this
  subst e2
  have by' := core_nobox (hfy _) hcy
  obtain ⟨rfl, ⟨rfl, hke, hmk⟩ | ⟨d, cs, cs', hd, rfl, rfl, hmk⟩⟩ := core_store hst hwx hcx
  · -- an object's cell
    have hk0 : kindOf X f y = .k0 := by
      rcases hky with k | ⟨_, k⟩
      · exact k
      · rw [hke] at k; cases k
    obtain ⟨_, rfl, h3⟩ := core_k0 (.inr hk0) hcy
    refine ⟨_, stepI_mk q.hy (s := (ty, H)) (h3 H) hpy, ?_⟩
    have := hmk (putT ty y.dst vy) (sameOps_put q.a3) (by rw [wantA_put q.a3]; exact hwx)
    rw [stepI_mk q.hx (s := (putT ty y.dst vy, H)) this (by rw [q.sx hst]; rfl), q.sx hst]; rfl
  · have hk' : kindOf X f y = .k0 ∨ kindOf X f y = .k1 ∧ guardL X f ops j = true := hky.imp id fun k => ⟨k.1, q.gl1 k.2⟩
    have hH2 : H2 = H1 := by
      rcases hky with k | ⟨k, _⟩
      · exact (core_k0 (.inr k) hcy).2.1
      · exact (core_read (.inl k) hcy).2.1
    subst hH2
    have hb := getD_setBox (cs' := cs') hd
    have hcy0 : core X f lim n0 call ops j y t H2 = some (vy, t, H2) := by
      have := core_setBox (i := j) (lim := lim) (n0 := n0) (call := call) (H := H2) (cs' := cs') hd hk' (hfy t)
      rw [hcy] at this
      cases hc : core X f lim n0 call ops j y t H2 with
      | none => rw [hc] at this; cases this
      | some r =>
        obtain ⟨v, u, G⟩ := r
        rw [hc] at this
        simp only [Option.map_some, Option.some.injEq, Prod.mk.injEq, true_and] at this
        have e := core_flat_t (hfy t) hc
        rw [e, ← this.1, ← this.2]
    have hne : y.dst ≠ some d := by
      intro hh
      rw [hh] at hpy
      have hbb : isBoxT (TV.box cs') = true := rfl
      simp only [putOk, by', hb, hbb, Bool.not_true, Bool.or_self, Bool.false_and, Bool.false_eq_true] at hpy
    have hpy' : putOk (avoids X f ops j) t y.dst vy = true := by
      rw [← hpy]
      exact (putOk_congr fun e he => getD_set_ne (by rintro rfl; exact hne he)).symm
    refine ⟨_, stepI_mk q.hy (s := (t, H2)) hcy0 hpy', ?_⟩
    have := hmk (putT t y.dst vy) H2 (sameOps_put q.a3) (by rw [wantA_put q.a3]; exact hwx) (by rw [getD_put_ne hne]; exact hd)
    rw [stepI_mk q.hx (s := (putT t y.dst vy, H2)) this (by rw [q.sx hst]; rfl), q.sx hst]
    have hpc := put_comm (t := t) (a := some d) (b := y.dst) (x := TV.box cs') (y := vy) (by intro e he; cases he; exact hne)
    simp only [putT] at hpc ⊢
    rw [hpc]

/-- A store comes second. -/
theorem swap_st2 (q : OpenAt X f ops i j x y) {s s1 s2 : List TV × Hp} (hst : isStore y = true) (hwy : wantA ops s.1 y = some true)
    (h1 : stepI X f lim n0 call ops i s = some s1) (h2 : stepI X f lim n0 call ops j s1 = some s2) : ∃ s1', stepI X f lim n0 call ops j s = some s1' ∧ stepI X f lim n0 call ops i s1' = some s2 := by
  obtain ⟨t, H⟩ := s
  obtain ⟨T1, H1⟩ := s1
  obtain ⟨T2, H2⟩ := s2
  obtain ⟨vx, tx, hcx, hpx, e1⟩ := stepI_some q.hx h1
  obtain ⟨vy, ty, hcy, hpy, e2⟩ := stepI_some q.hy h2
  simp only at hcx hpx e1 hcy hpy e2 hwy
  have hkx : kindOf X f x = .k0 ∨ kindOf X f x = .k1 ∧ kindOf X f y = .kl := by
    have := q.mp
    rcases kind_store (X := X) (f := f) hst with k | k <;> rw [k] at this <;> cases hy : kindOf X f x <;> rw [hy] at this <;> simp_all [mayPass]
  have hfx : ∀ u, Flat X f ops u x := fun u => flat_of_kind (by rcases hkx with k | ⟨k, _⟩ <;> simp [k])
  have := core_flat_t (hfx _) hcx
  subst this
  subst e1
  have bx := core_nobox (hfx _) hcx
  rw [q.sy hst] at e2 hpy
  simp only [putT] at e2
  subst e2
  have hwy' : wantA ops (putT tx x.dst vx) y = some true := by rw [wantA_put q.a1]; exact hwy
  have hsy : SameOps X tx (putT tx x.dst vx) y := sameOps_put q.a1
  obtain ⟨rfl, ⟨rfl, hke, hmk⟩ | ⟨d, cs, cs', hd, rfl, rfl, hmk⟩⟩ := core_store hst hwy' hcy
  · have hk0 : kindOf X f x = .k0 := by
      rcases hkx with k | ⟨_, k⟩
      · exact k
      · rw [hke] at k; cases k
    obtain ⟨_, rfl, h3⟩ := core_k0 (.inr hk0) hcx
    refine ⟨_, stepI_mk q.hy (s := (tx, H1)) (hmk tx hsy.symm hwy) (by rw [q.sy hst]; rfl), ?_⟩
    rw [q.sy hst]
    exact stepI_mk q.hx (s := (tx, H2)) (h3 H2) hpx
  · have hk' : kindOf X f x = .k0 ∨ kindOf X f x = .k1 ∧ guardL X f ops i = true := hkx.imp id fun k => ⟨k.1, q.gl2 k.2⟩
    obtain ⟨hne, hd0⟩ := nobox_ne hd bx
    have hH : H2 = H := by
      rcases hkx with k | ⟨k, _⟩
      · exact (core_k0 (.inr k) hcx).2.1
      · exact (core_read (.inl k) hcx).2.1
    subst hH
    refine ⟨_, stepI_mk q.hy (s := (tx, H2)) (hmk tx H2 hsy.symm hwy hd0) (by rw [q.sy hst]; rfl), ?_⟩
    rw [q.sy hst]
    simp only [putT]
    have hcx1 := core_setBox (i := i) (lim := lim) (n0 := n0) (call := call) (H := H2) (cs' := cs') hd0 hk' (hfx tx)
    rw [hcx] at hcx1
    simp only [Option.map_some] at hcx1
    have hpx' : putOk (avoids X f ops i) (tx.set d (.box cs')) x.dst vx = true := by
      rw [← hpx]
      exact putOk_congr fun e he => getD_set_ne (by rintro rfl; exact hne he)
    rw [stepI_mk q.hx (s := (tx.set d (.box cs'), H2)) hcx1 hpx']
    have hpc := put_comm (t := tx) (a := some d) (b := x.dst) (x := TV.box cs') (y := vx) (by intro e he; cases he; exact hne)
    simp only [putT] at hpc ⊢
    rw [hpc]

/-- Two steps whose order is open. -/
theorem swap (q : OpenAt X f ops i j x y) (cp : CallPure X call) {s s1 s2 : List TV × Hp} (hn : n0 ≤ s.2.length)
    (h1 : stepI X f lim n0 call ops i s = some s1) (h2 : stepI X f lim n0 call ops j s1 = some s2) : ∃ s1', stepI X f lim n0 call ops j s = some s1' ∧ stepI X f lim n0 call ops i s1' = some s2 := by
  by_cases hfx : Flat X f ops s.1 x
  · by_cases hfy : Flat X f ops s.1 y
    · exact swap_flat q cp hn hfx hfy h1 h2
    · have hwy : wantA ops s.1 y = some true := by
        obtain ⟨vx, tx, hcx, hpx, e1⟩ := stepI_some q.hx h1
        obtain ⟨vy, ty, hcy, hpy, e2⟩ := stepI_some q.hy h2
        have := core_flat_t hfx hcx
        subst this
        have hw := core_want hcy
        rw [e1, wantA_put q.a1] at hw
        exact hw.resolve_right fun h => hfy (.inl h)
      cases hst : isStore y with
      | true => exact swap_st2 q hst hwy h1 h2
      | false =>
        have hk : kindOf X f y = .ka := Classical.byContradiction fun h => hfy (.inr ⟨hst, h⟩)
        exact swap_ka2 q hk hwy hfx h1 h2
  · have hwx : wantA ops s.1 x = some true := by
      obtain ⟨vx, tx, hcx, hpx, e1⟩ := stepI_some q.hx h1
      exact (core_want hcx).resolve_right fun h => hfx (.inl h)
    cases hst : isStore x with
    | true => exact swap_st1 q hst hwx h1 h2
    | false =>
      have hk : kindOf X f x = .ka := Classical.byContradiction fun h => hfx (.inr ⟨hst, h⟩)
      refine swap_ka1 q hk hwx (flat_of_kind ?_) h1 h2
      have := q.mp
      rw [hk] at this
      cases hy : kindOf X f y <;> rw [hy] at this <;> simp_all [mayPass]
end
end Go.Proofs.Ytmgofjgfmcmceaa
end
section
namespace Go.Proofs.Ytmgofjgfmcmceaa
open Go.RowKit

section
variable {X : Ctx} {t t' : List TV} {H : Hp} {o : Oper} {f : FuncId} {lim n0 : Nat} {call : CallF} {ops : Array Oper} {i j : Nat} {x y : Oper}

theorem precs_length : ∀ (l : List Oper) (acc : List (List Nat)), (precs l acc).length = acc.length + l.length
  | [], acc => by simp [precs]
  | o :: l, acc => by rw [precs, precs_length]; simp; omega
theorem precs_old : ∀ (l : List Oper) (acc : List (List Nat)) (k : Nat), k < acc.length → (precs l acc).getD k [] = acc.getD k []
  | [], acc, k, _ => by simp [precs]
  | o :: l, acc, k, hk => by
    rw [precs, precs_old l _ k (by simp; omega)]
    simp only [List.getD_eq_getElem?_getD, List.getElem?_append_left hk]
theorem precs_at : ∀ (l : List Oper) (acc : List (List Nat)) (j : Nat) (o : Oper), l[j]? = some o → (∀ e ∈ o.after, Region.binds .any e = true → e.on < acc.length + j) →
    ∀ e ∈ o.after, Region.binds .any e = true → e.on ∈ (precs l acc).getD (acc.length + j) [] ∧ ∀ k ∈ (precs l acc).getD e.on [], k ∈ (precs l acc).getD (acc.length + j) []
  | [], acc, j, o, h, _ => by simp at h
  | p :: l, acc, 0, o, h, hb => by
    simp only [List.getElem?_cons_zero, Option.some.injEq] at h
    subst h
    intro e he hbe
    rw [precs]
    have hlt := hb e he hbe
    have h1 := precs_old l (acc ++ [(p.after.toList.filter (Region.binds .any)).flatMap fun e => e.on :: acc.getD e.on []]) (acc.length + 0) (by simp)
    have h2 := precs_old l (acc ++ [(p.after.toList.filter (Region.binds .any)).flatMap fun e => e.on :: acc.getD e.on []]) e.on (by simp; omega)
    rw [h1, h2]
    have e1 : (acc ++ [(p.after.toList.filter (Region.binds .any)).flatMap fun e => e.on :: acc.getD e.on []]).getD (acc.length + 0) [] = (p.after.toList.filter (Region.binds .any)).flatMap fun e => e.on :: acc.getD e.on [] := by simp [List.getD_eq_getElem?_getD]
    have e2 : (acc ++ [(p.after.toList.filter (Region.binds .any)).flatMap fun e => e.on :: acc.getD e.on []]).getD e.on [] = acc.getD e.on [] := by simp only [List.getD_eq_getElem?_getD, List.getElem?_append_left (show e.on < acc.length by omega)]
    rw [e1, e2]
    have hm : e ∈ p.after.toList.filter (Region.binds .any) := List.mem_filter.2 ⟨by simpa using he, hbe⟩
    exact ⟨List.mem_flatMap.2 ⟨e, hm, by simp⟩, fun k hk => List.mem_flatMap.2 ⟨e, hm, by simp only [List.mem_cons]; exact .inr hk⟩⟩
  | p :: l, acc, j + 1, o, h, hb => by
    simp only [List.getElem?_cons_succ] at h
    rw [precs]
    have := precs_at l (acc ++ [(p.after.toList.filter (Region.binds .any)).flatMap fun e => e.on :: acc.getD e.on []]) j o h (fun e he hbe => by have := hb e he hbe; simp; omega)
    simp only [List.length_append, List.length_cons, List.length_nil] at this
    rw [show acc.length + (j + 1) = acc.length + (0 + 1) + j by omega]
    exact this

theorem drawOk_after (h : drawOk X f ops = true) {j : Nat} {o : Oper} (ho : ops[j]? = some o) : ∀ e ∈ o.after, Region.binds .any e = true → e.on < j := by
  unfold drawOk at h
  rw [Bool.and_eq_true, Bool.and_eq_true] at h
  intro e he hb
  have := List.all_eq_true.1 h.1.2 (o, j) (by rw [List.mem_zipIdx_iff_getElem?]; simpa using ho)
  have := List.all_eq_true.1 this e (by simpa using he)
  simp only [hb, Bool.not_true, Bool.false_or, decide_eq_true_eq] at this
  exact this
theorem drawOk_store (h : drawOk X f ops = true) {j : Nat} {o : Oper} (ho : ops[j]? = some o) (hs : isStore o = true) : o.dst = none := by
  unfold drawOk at h
  rw [Bool.and_eq_true, Bool.and_eq_true] at h
  have := List.all_eq_true.1 h.1.1 o (by simpa using Array.mem_of_getElem? ho)
  unfold isStore at hs
  split at hs
  · rename_i hop
    rw [hop] at this
    simpa using this
  · cases hs

theorem openAt_of (h : drawOk X f ops = true) {i j : Nat} (hij : i < j) (hj : j < ops.size) (hn : i ∉ (precs ops.toList []).getD j []) : ∃ x y, OpenAt X f ops i j x y := by
  have hmem : (i, j) ∈ openPairs ops := by
    unfold openPairs
    simp only [List.mem_flatMap, List.mem_range, List.mem_map, List.mem_filter, Bool.not_eq_true']
    exact ⟨j, hj, i, ⟨hij, by simpa using hn⟩, rfl⟩
  have h0 := h
  unfold drawOk at h
  rw [Bool.and_eq_true] at h
  have hp := List.all_eq_true.1 h.2 _ hmem
  simp only at hp
  cases hx : ops[i]? with
  | none => rw [hx] at hp; cases hp
  | some x =>
    cases hy : ops[j]? with
    | none => rw [hx, hy] at hp; cases hp
    | some y =>
      rw [hx, hy] at hp
      simp only [Bool.and_eq_true] at hp
      obtain ⟨b1, b2, b3⟩ := Oper.apart_spec hp.1
      refine ⟨x, y, hx, hy, b1, b2, b3, hp.2, ?_, ?_, ?_, ?_, ?_, drawOk_store h0 hx, drawOk_store h0 hy⟩
      · intro hk
        unfold guardC
        exact List.any_eq_true.2 ⟨_, hmem, by simp [hx, hk]⟩
      · intro hk
        unfold guardL
        exact List.any_eq_true.2 ⟨_, hmem, by simp [hx, hk]⟩
      · intro hk
        unfold guardL
        exact List.any_eq_true.2 ⟨_, hmem, by simp [hy, hk]⟩
      · intro hk d hd
        unfold avoids
        refine List.mem_filterMap.2 ⟨_, hmem, ?_⟩
        have : ¬ i = j := by omega
        simp [this, hx, hk, hd]
      · intro hk d hd
        unfold avoids
        refine List.mem_filterMap.2 ⟨_, hmem, ?_⟩
        simp [hy, hk, hd]

/-- One that may go first goes first. -/
theorem bubble (hck : CallKeeps lim call) (cp : CallPure X call) : ∀ (l1 l2 : List Nat) {s s2 : List TV × Hp}, n0 ≤ s.2.length → (∀ k ∈ l1, ∃ x y, OpenAt X f ops k i x y) → runI X f lim n0 call ops (l1 ++ i :: l2) s = some s2 →
    ∃ s1, stepI X f lim n0 call ops i s = some s1 ∧ runI X f lim n0 call ops (l1 ++ l2) s1 = some s2
  | [], l2, s, s2, hn, _, h => by
    simp only [List.nil_append, runI] at h
    split at h
    · rename_i s1 h1; exact ⟨s1, h1, by simpa using h⟩
    · cases h
  | k :: l1, l2, s, s2, hn, ho, h => by
    simp only [List.cons_append, runI] at h
    split at h
    · rename_i s' h1
      obtain ⟨s'', h2, h3⟩ := bubble hck cp l1 l2 (Nat.le_trans hn (stepI_keeps hck h1).1) (fun k hk => ho k (by simp [hk])) h
      obtain ⟨x, y, q⟩ := ho k (by simp)
      obtain ⟨u, h4, h5⟩ := swap q cp hn h1 h2
      refine ⟨u, h4, ?_⟩
      simp only [List.cons_append, runI, h5]
      exact h3
    · cases h

theorem stepI_run {s s1 : List TV × Hp} (ho : ops[i]? = some o) (h : stepI X f lim n0 call ops i s = some s1) : runOp X f lim call ops s.1 s.2 o = some s1 := by
  unfold stepI at h
  rw [ho] at h
  simp only at h
  unfold runOp
  cases hw : wantA ops s.1 o with
  | none => rw [hw] at h; cases h
  | some b =>
    rw [hw] at h
    cases b with
    | true =>
      simp only at h ⊢
      split at h
      · split at h
        · split at h
          · exact h
          · cases h
        · cases h
      · cases h
    | false =>
      simp only at h ⊢
      split at h
      · exact h
      · cases h

/-- Every order of what is left. -/
theorem wpAny_all (hd : drawOk X f ops = true) (hcs : CallSound X call) (hck : CallKeeps lim call) (cp : CallPure X call) {S A : Nat → Prop} {w0 : World} {Q : Exit → Act → World → Prop} : ∀ (fuel : Nat) (listed : Array Bool) (l : List Nat) (s : List TV × Hp) (t1 : List TV) (H1 : Hp) (μ : Mu) (lam : Nat → Nat) (a : Act) (w : World),
    l.length ≤ fuel → l.Pairwise (· < ·) → (∀ k, k ∈ l ↔ k < ops.size ∧ listed.getD k true = false) → listed.size = ops.size → (∀ j, listed.getD j false = true → ∀ k ∈ (precs ops.toList []).getD j [], listed.getD k false = true) →
    n0 ≤ s.2.length → runI X f lim n0 call ops l s = some (t1, H1) → Rel X S A w0 μ lam s.1 s.2 a w →
    (∀ (μ1 : Mu) (lam1 : Nat → Nat) (a1 : Act) (w1 : World), Ext s.2.length μ μ1 → s.2.length ≤ H1.length → Rel X S A w0 μ1 lam1 t1 H1 a1 w1 → Q .normal a1 w1) → wpAny X.P .any ops Q fuel listed a w := by
  intro fuel
  have hend : ∀ (listed : Array Bool) (l : List Nat), l.Pairwise (· < ·) → (∀ k, k ∈ l ↔ k < ops.size ∧ listed.getD k true = false) → listed.size = ops.size → Region.ready .any ops listed = [] → l = [] := by
    intro listed l hl hm hsz hr
    cases l with
    | nil => rfl
    | cons k l =>
      exfalso
      obtain ⟨hk, hkl⟩ := (hm k).1 (by simp)
      have : k ∈ Region.ready .any ops listed := by
        rw [mem_ready]
        refine ⟨hkl, ops[k], Array.getElem?_eq_getElem hk, fun e he hb => ?_⟩
        have hlt := drawOk_after hd (Array.getElem?_eq_getElem hk) e he hb
        cases hle : listed.getD e.on true with
        | true =>
          have : e.on < listed.size := by omega
          simpa [Array.getD_eq_getD_getElem?, this] using hle
        | false =>
          have := (hm e.on).2 ⟨by omega, hle⟩
          rcases List.mem_cons.1 this with h | h
          · omega
          · have := (List.pairwise_cons.1 hl).1 _ h; omega
      rw [hr] at this; cases this
  induction fuel with
  | zero =>
    intro listed l s t1 H1 μ lam a w hlen hl hm hsz hcl hn hr hrel hK
    have hnil : l = [] := List.eq_nil_of_length_eq_zero (by omega)
    subst hnil
    simp only [runI, Option.some.injEq] at hr
    subst hr
    refine ⟨?_, hK μ lam a w (Ext.refl _ _) (Nat.le_refl _) hrel⟩
    cases hrd : Region.ready .any ops listed with
    | nil => rfl
    | cons k r =>
      exfalso
      have : k ∈ Region.ready .any ops listed := by rw [hrd]; simp
      obtain ⟨h1, o, ho, _⟩ := mem_ready.1 this
      have := (hm k).2 ⟨(Array.getElem?_eq_some_iff.1 ho).1, h1⟩
      cases this
  | succ fuel ih =>
    intro listed l s t1 H1 μ lam a w hlen hl hm hsz hcl hn hr hrel hK
    refine ⟨fun hrd => ?_, fun i hi => ?_⟩
    · have hnil := hend listed l hl hm hsz hrd
      subst hnil
      simp only [runI, Option.some.injEq] at hr
      subst hr
      exact hK μ lam a w (Ext.refl _ _) (Nat.le_refl _) hrel
    · obtain ⟨h1, o, ho, haft⟩ := mem_ready.1 hi
      have hisz := (Array.getElem?_eq_some_iff.1 ho).1
      have hil := (hm i).2 ⟨hisz, h1⟩
      obtain ⟨l1, l2, rfl⟩ := List.append_of_mem hil
      -- all ahead of it in the text that must be done is done
      have hprec : ∀ k ∈ (precs ops.toList []).getD i [], listed.getD k false = true := by
        intro k hk
        have hsub : ∀ (l : List Oper) (acc : List (List Nat)) (j : Nat) (o : Oper), l[j]? = some o → ∀ k ∈ (precs l acc).getD (acc.length + j) [], ∃ e ∈ o.after, Region.binds .any e = true ∧ (k = e.on ∨ k ∈ (precs l acc).getD e.on [] ∨ ¬ e.on < acc.length + j) := by
          intro l
          induction l with
          | nil => intro acc j o h; simp at h
          | cons p l ihl =>
            intro acc j o h k hk
            cases j with
            | zero =>
              simp only [List.getElem?_cons_zero, Option.some.injEq] at h
              subst h
              rw [precs] at hk ⊢
              rw [precs_old l _ (acc.length + 0) (by simp)] at hk
              have e1 : (acc ++ [(p.after.toList.filter (Region.binds .any)).flatMap fun e => e.on :: acc.getD e.on []]).getD (acc.length + 0) [] = (p.after.toList.filter (Region.binds .any)).flatMap fun e => e.on :: acc.getD e.on [] := by simp [List.getD_eq_getElem?_getD]
              rw [e1] at hk
              obtain ⟨e, he, hke⟩ := List.mem_flatMap.1 hk
              obtain ⟨he1, he2⟩ := List.mem_filter.1 he
              refine ⟨e, by simpa using he1, he2, ?_⟩
              rcases List.mem_cons.1 hke with h | h
              · exact .inl h
              · by_cases hlt : e.on < acc.length + 0
                · refine .inr (.inl ?_)
                  rw [precs_old l _ e.on (by simp; omega)]
                  simp only [List.getD_eq_getElem?_getD, List.getElem?_append_left (show e.on < acc.length by omega)]
                  simpa [List.getD_eq_getElem?_getD] using h
                · exact .inr (.inr hlt)
            | succ j =>
              simp only [List.getElem?_cons_succ] at h
              rw [precs] at hk ⊢
              have := ihl (acc ++ [(p.after.toList.filter (Region.binds .any)).flatMap fun e => e.on :: acc.getD e.on []]) j o h k
              simp only [List.length_append, List.length_cons, List.length_nil] at this
              rw [show acc.length + (j + 1) = acc.length + (0 + 1) + j by omega] at hk ⊢
              exact this hk
        obtain ⟨e, he, hb, h⟩ := hsub ops.toList [] i o (by simpa using ho) k (by simpa using hk)
        have hl := haft e he hb
        rcases h with rfl | h | h
        · exact hl
        · exact hcl _ hl _ h
        · exact absurd (drawOk_after hd ho e he hb) (by simpa using h)
      have hop : ∀ k ∈ l1, ∃ x y, OpenAt X f ops k i x y := by
        intro k hk
        have hki : k < i := (List.pairwise_append.1 hl).2.2 k hk i (by simp)
        refine openAt_of hd hki hisz fun hin => ?_
        have h2 := hprec k hin
        have h3 := ((hm k).1 (by simp [hk])).2
        have hks : k < listed.size := by omega
        simp [Array.getD_eq_getD_getElem?, hks] at h2 h3
        rw [h2] at h3; cases h3
      obtain ⟨s1, h2, h3⟩ := bubble hck cp l1 l2 hn hop hr
      have hrun := stepI_run ho h2
      have hlen1 : s.2.length ≤ s1.2.length := (stepI_keeps hck h2).1
      have := runOp_sound hrel hcs hrun (Q := Q) (K := wpAny X.P .any ops Q fuel (listed.setIfInBounds i true)) fun μ1 lam1 a1 w1 e1 e2 e3 => by
        have hnd : i ∉ l1 ∧ i ∉ l2 := by
          have hp := List.pairwise_append.1 hl
          exact ⟨fun h => absurd (hp.2.2 i h i (by simp)) (by omega), fun h => absurd ((List.pairwise_cons.1 hp.2.1).1 i h) (by omega)⟩
        refine ih _ (l1 ++ l2) s1 t1 H1 μ1 lam1 a1 w1 (by simp at hlen ⊢; omega) ?_ ?_ (by simpa using hsz) ?_ (Nat.le_trans hn hlen1) h3 e3 fun μ2 lam2 a2 w2 e4 e5 e6 => hK μ2 lam2 a2 w2 (e1.trans e4 e2) (Nat.le_trans e2 e5) e6
        · exact hl.sublist (List.Sublist.append_left (List.sublist_cons_self _ _) _)
        · intro k
          by_cases hki : i = k
          · subst hki
            have : i < listed.size := by omega
            simp [hnd.1, hnd.2, this]
          · rw [Go.getD_set_ne true hki, ← hm k]
            have : k ≠ i := fun h => hki h.symm
            simp [this]
        · intro j hj k hk
          by_cases hji : i = j
          · subst hji
            exact getD_set_true (hprec k hk)
          · rw [Go.getD_set_ne false hji] at hj
            exact getD_set_true (hcl j hj k hk)
      unfold wpOp
      rw [ho]
      simp only
      split at this
      · rename_i hw; rw [if_pos hw]; exact .inl this
      · rename_i hw; rw [if_neg hw]; exact this
end
theorem drawSound {X : Ctx} (hm : X.P.follows .mixedOrders = true) : DrawSound X := by
  intro n f ops hd lim hcs t H t1 H1 hr S A w0 μ lam a w hrel id
  refine wp_region_any hm ?_
  refine wpAny_all hd hcs (exec_keeps n f lim).2 (callBy_pure n lim) ops.size _ (List.range ops.size) (t, H) t1 H1 μ lam a _ (by simp) ?_ ?_ (by simp) ?_ (Nat.le_refl _) hr ?_ fun μ1 lam1 a1 w1 e1 e2 e3 => ⟨rfl, μ1, lam1, e1, e2, e3⟩
  · exact List.pairwise_lt_range
  · intro k
    rw [List.mem_range]
    constructor
    · intro hk; exact ⟨hk, by simp [hk]⟩
    · exact fun h => h.1
  · intro j hj
    exfalso
    rcases Nat.lt_or_ge j ops.size with h | h
    · simp [h] at hj
    · simp [h] at hj
  · exact hrel.same rfl rfl rfl rfl
end Go.Proofs.Ytmgofjgfmcmceaa
end
