/- Single operations, third part: slices and strings. Single operations, fourth part: cuts, makes, copies, conversions, composite values, numbers. Single operations, fifth part: copies, conversions, composite values, numbers. Single operations, sixth part: numbers, function values, calls; all together. One operation, whichever it is. The control of a function's text, and its calls. A call: from its frame to what it hands back; the interpreter is sound. -/
import Derived.Test.YtmgofjgfmcmceaaF1
import Derived.Laws.BytesArg
import Derived.Lib.ConvBytes
section
namespace Go.Proofs.Ytmgofjgfmcmceaa
open Go.RowKit

theorem setCells_eq : ∀ (vs cs : List Value) (i : Nat), i + vs.length ≤ cs.length → setCells cs i vs = cs.take i ++ vs ++ cs.drop (i + vs.length)
  | [], cs, i, _ => by simp [setCells]
  | v :: vs, cs, i, h => by
    simp only [List.length_cons] at h
    rw [setCells, setCells_eq vs (cs.set i v) (i + 1) (by simp; omega)]
    have h1 : (cs.set i v).take (i + 1) = cs.take i ++ [v] := by
      rw [List.take_succ_eq_append_getElem (by simp; omega)]
      have h0 : (cs.set i v).take i = cs.take i := by
        apply List.ext_getElem?
        intro j
        rw [List.getElem?_take, List.getElem?_take]
        split
        · rw [List.getElem?_set_ne (by omega)]
        · rfl
      rw [h0]; simp
    have h2 : (cs.set i v).drop (i + 1 + vs.length) = cs.drop (i + (vs.length + 1)) := by
      rw [List.drop_set_of_lt (by omega)]
      congr 1; omega
    rw [h1, h2]
    simp

section
variable {X : Ctx} {S A : Nat → Prop} {w0 : World} {μ : Mu} {lam : Nat → Nat} {t : List TV} {H : Hp} {a : Act} {w : World} {o : Oper}

/-- A new object that a slice leads to. -/
theorem OpOk.newSl (h : Rel X S A w0 μ lam t H a w) {w1 : World} {es n c : Nat} {cs : List Value} {C : Array Value} {T : TypeId} {fz : Nat × Nat}
    (hrun : (execOp a.eval o).run X.P w = .ok (.value (.slice (some ⟨w.heap.size, 0, none⟩) n c)) w1)
    (hos : w1.os = w.os) (htape : w1.tape = w.tape) (hout : w1.output = w.output) (hsz : w.heap.size ≤ w1.heap.size) (hold : ∀ k, k < w.heap.size → w1.heap[k]? = w.heap[k]?)
    (hnew : w1.heap[w.heap.size]? = some (.cells C T fz)) (hc : VP μ H.length cs C) (hf : ∀ i : Nat, i < C.size → (decide (fz.1 ≤ i) && decide (i < fz.2)) = false)
    (hn : n ≤ c) (hcap : c * es ≤ C.size) {v : Value} {H1 : Hp} (hs : newSlice H es n cs = some (v, H1)) : OpOk X S A w0 μ lam H a w o t (.val v) H1 := by
  unfold newSlice at hs
  split at hs
  · simp only [Option.some.injEq, Prod.mk.injEq] at hs
    obtain ⟨rfl, rfl⟩ := hs
    have hr := h.newObj true es hos htape hout hsz hold hnew hc hf
    refine ⟨.value _, w1, _, _, lam, hrun, .inl rfl, Ext.upd _ _ _, by simp, hr.put o.dst ?_⟩
    exact ⟨rfl, by simp, 0, c, by simp, .inl ⟨rfl, hn, by simpa using hcap⟩⟩
  · cases hs

theorem elemP_ok {P : Program} {t e : TypeId} (h : elemP P t = some e) : P.underlying t = some (.slice e) := by
  unfold elemP at h
  split at h
  · rename_i e' hu; simp only [Option.some.injEq] at h; subst h; exact hu
  · cases h

theorem roomOk_ok {P : Program} {e : TypeId} {n : Nat} (h : roomOk P e n = true) : ∃ (i : TypeInfo) (z : Value), P.info? e = some i ∧ i.zero = some z ∧ z.cells.size = i.size ∧ n ≤ 140737488355328 ∧ (n + 1000) * i.bytes * 4 ≤ 281474976710656 := by
  unfold roomOk bytesP zeroP sizeP at h
  cases hi : P.info? e with
  | none => simp [hi] at h
  | some i =>
    rw [hi] at h
    cases hz : i.zero with
    | none => simp [hz] at h
    | some z =>
      simp [hz] at h
      exact ⟨i, z, rfl, hz, h.2.2, h.1, h.2.1⟩

theorem byteOf_ok : ∀ {cs : List Value} {ns : List Int}, cs.mapM byteOf? = some ns → cs = ns.map (Value.int .u8)
  | [], ns, h => by simp at h; subst h; rfl
  | c :: cs, ns, h => by
    rw [List.mapM_cons] at h
    cases hb : byteOf? c with
    | none => simp [hb] at h
    | some n =>
      cases hm : cs.mapM byteOf? with
      | none => simp [hb, hm] at h
      | some r =>
        simp [hb, hm] at h
        subst h
        have : c = .int .u8 n := by
          cases c <;> simp [byteOf?] at hb
          rename_i k m
          cases k <;> simp at hb
          rw [hb]
        rw [this, byteOf_ok hm]; rfl

theorem firstCells_empty (P : Program) (w : World) (es : Nat) (p : Option Addr) : (Builtin.firstCells es 0 (.slice p 0 0)).run P w = .ok ([] : List Value).toArray w := by
  cases p with
  | none => rfl
  | some x =>
    show (loadCells x (0 * es)).run P w = _
    rw [Nat.zero_mul]
    exact run_loadCells_list (P := P) w x [] (by simp)
/-- The elements of a slice, or a string's bytes. -/
theorem src_ok (h : Rel X S A w0 μ lam t H a w) {es : Nat} {x x' : Value} (hx : VT μ H.length x x') {m : Nat} {new : List Value} (hs : srcCells H es x = some (m, new)) :
    ∃ new' : List Value, (∀ P w', (Builtin.lenOf x').run P w' = .ok m w') ∧ (∀ P w', w'.heap = w.heap → (Builtin.firstCells es m x').run P w' = .ok new'.toArray w') ∧ VL μ H.length new new' ∧ new.length = m * es := by
  unfold srcCells at hs
  split at hs
  · split at hs
    · rename_i n _ hn
      simp only [Option.some.injEq, Prod.mk.injEq] at hs
      obtain ⟨rfl, rfl⟩ := hs
      obtain ⟨_, p, rfl⟩ := hx
      exact ⟨[], fun P w' => rfl, fun P w' _ => firstCells_empty P w' es p, VL.nil _ _, by simp⟩
    · cases hs
  · rename_i b off n _
    split at hs
    · rename_i ob hb
      split at hs
      · rename_i hcond
        obtain ⟨hes, hle⟩ := hcond
        simp only [Option.some.injEq, Prod.mk.injEq] at hs
        obtain ⟨rfl, rfl⟩ := hs
        obtain ⟨_, hlt, o', c', rfl, hcase⟩ := hx
        obtain ⟨C, T, fz, h1, h2, h3, h4, h5⟩ := h.vp hb
        have hlen : ((ob.cells.drop off).take (n * es)).length = n * es := by simp; omega
        rcases hcase with ⟨rfl, hn, hcap⟩ | ⟨rfl, rfl⟩
        · refine ⟨(C.toList.drop o').take (n * es), fun P w' => rfl, fun P w' hw' => ?_, h4.part o' (n * es) hle, hlen⟩
          have hsz : o' + n * es ≤ C.size := by have := h4.1; omega
          exact run_loadCells_blk P (by rw [hw']; exact h1) hsz
        · refine ⟨[], fun P w' => rfl, fun P w' hw' => ?_, ?_, hlen⟩
          · show (loadCells ⟨(μ b).blk, o', none⟩ (0 * es)).run P w' = _
            rw [Nat.zero_mul]
            exact run_loadCells_list (P := P) w' ⟨(μ b).blk, o', none⟩ [] (by simp)
          · simpa using VL.nil μ H.length
      · cases hs
    · cases hs
  · rename_i s
    split at hs
    · rename_i he
      subst he
      simp only [Option.some.injEq, Prod.mk.injEq] at hs
      obtain ⟨rfl, rfl⟩ := hs
      have hx' : x' = .string s := hx
      subst hx'
      refine ⟨s.data.toList.map fun b => .int .u8 b.toNat, fun P w' => rfl, fun P w' hw' => ?_, VL.of_all (fun v hv => by obtain ⟨b, _, rfl⟩ := List.mem_map.1 hv; rfl), by rw [List.length_map, Array.length_toList, Nat.mul_one]; rfl⟩
      have : s.extract 0 s.size = s := by simp
      simp only [Builtin.firstCells, this, Sem.run_pure]
      congr 1
      apply Array.ext'
      simp
    · cases hs
  · cases hs

theorem growBy_le (need : Nat) : ∀ (r c : Nat), c ≤ 2 * need + 768 → Builtin.growBy need r c ≤ 2 * need + 768
  | 0, c, h => h
  | r + 1, c, h => by
    unfold Builtin.growBy
    split
    · exact h
    · exact growBy_le need r _ (by omega)
theorem nextslicecap_le {need cap : Nat} (h : cap < need) : Builtin.nextslicecap need cap ≤ 2 * need + 768 := by
  unfold Builtin.nextslicecap
  split
  · omega
  · split
    · omega
    · exact growBy_le need 4 cap (by omega)

theorem zeroCells_size (z : Array Value) (n : Nat) : (Builtin.zeroCells z n).size = n * z.size := by simp [Builtin.zeroCells]

/-- The world behind an append that took a new block. -/
theorem run_append_grows (P : Program) (w : World) (ty ty2 rt e : TypeId) (hu : P.underlying ty = some (.slice e)) {d2 : TypeDesc} (hu2 : P.underlying ty2 = some d2) (hd2 : ∀ k, d2 ≠ .int k) {i : TypeInfo} {z : Value} (hi : P.info? e = some i) (hz : i.zero = some z) (_hzs : z.cells.size = i.size)
    {A : Option Addr} {n c : Nat} {x : Value} {m : Nat} {old new : List Value} (_hold : (Builtin.firstCells i.size n (.slice A n c)).run P w = .ok old.toArray w) (hlen : (Builtin.lenOf x).run P w = .ok m w)
    (_hnew : (Builtin.firstCells i.size m x).run P w = .ok new.toArray w) (hold' : (Builtin.firstCells i.size n (.slice A n c)).run P w.drew = .ok old.toArray w.drew) (hnew' : (Builtin.firstCells i.size m x).run P w.drew = .ok new.toArray w.drew)
    (hgt : c < n + m) (hroom : n + m ≤ 140737488355328 ∧ (n + m + 1000) * i.bytes * 4 ≤ 281474976710656) :
    ∃ (cap : Nat), n + m ≤ cap ∧ (Builtin.append_ #[ty, ty2] rt #[.slice A n c, x]).run P w = .ok (.slice (some ⟨w.heap.size, 0, none⟩) (n + m) cap)
      (w.drew.alloc (.cells (old.toArray ++ new.toArray ++ Builtin.zeroCells z.cells (cap - (n + m))) e)) := by
  obtain ⟨r1, r2⟩ := hroom
  have hq : (Question.appendCap (n + m) c e).forced = false := rfl
  refine ⟨(Question.appendCap (n + m) c e).cut (w.tape w.drawn (.appendCap (n + m) c e)), ?_, ?_⟩
  · simp only [Question.cut]; omega
  · have hni : ¬ (n + m ≤ c) := by omega
    have hmi : (match d2 with | .int _ => true | _ => false) = false := by
      cases d2 <;> first | rfl | exact absurd rfl (hd2 _)
    have hbig : ¬ (((n + m : Nat) : Int) > IntKind.i64.max) := by
      have : IntKind.i64.max = 9223372036854775807 := by decide
      omega
    have hcap : ¬ (Builtin.nextslicecap (n + m) c * i.bytes > 2 ^ 48) := by
      have h1 := nextslicecap_le hgt
      have h2 : Builtin.nextslicecap (n + m) c * i.bytes ≤ (2 * (n + m) + 768) * i.bytes := Nat.mul_le_mul_right _ h1
      have h3 : (2 * (n + m) + 768) * i.bytes ≤ (n + m + 1000) * i.bytes * 4 := by
        have : (n + m + 1000) * i.bytes * 4 = (4 * (n + m + 1000)) * i.bytes := by rw [Nat.mul_comm ((n + m + 1000) * i.bytes) 4, Nat.mul_assoc]
        rw [this]; exact Nat.mul_le_mul_right _ (by omega)
      omega
    unfold Builtin.append_
    simp [run_under hu, run_under hu2, sizeOf, typeInfo, hi, hlen, hni, hcap, hq, hold', hnew', zeroValue, hz, newRow, -World.alloc_eq]
    rw [if_neg (by omega)]
    congr 3
    apply Array.ext'
    simp

theorem op_append (h : Rel X S A w0 μ lam t H a w) {lim : Nat} {c : Call} (ho : o.op = .call c) (hcal : c.callee = .builtin .append) {so xo : Operand} {ty ty2 : TypeId} (h0 : c.args[0]? = some so) (h1 : c.args[1]? = some xo)
    (h2 : c.argTypes[0]? = some ty) (h3 : c.argTypes[1]? = some ty2) {d2 : TypeDesc} (hu2 : X.P.underlying ty2 = some d2) (hd2 : ∀ k, d2 ≠ .int k) {s x : Value} (hs : evv X t so = some s) (hx : evv X t xo = some x)
    {v : Value} {H1 : Hp} (ha : appendV X.P lim H ty s x = some (v, H1)) : OpOk X S A w0 μ lam H a w o t (.val v) H1 := by
  have hsv := h.evv hs
  have hxv := h.evv hx
  generalize hs' : a.eval so = s' at hsv
  generalize hx' : a.eval xo = x' at hxv
  have hexec : ∀ {r : Result Value}, (Builtin.append_ c.argTypes o.type (c.args.map a.eval)).run X.P w = r → (execOp a.eval o).run X.P w = r.andThen fun v w => .ok (.value v) w := by
    rintro r rfl
    simp [execOp, ho, resolve, hcal, invoke, builtin]
  have ha0 : (c.args.map a.eval)[0]? = some s' := by simp [h0, hs']
  have ha1 : (c.args.map a.eval)[1]? = some x' := by simp [h1, hx']
  have happ : Builtin.append_ c.argTypes o.type (c.args.map a.eval) = Builtin.append_ #[ty, ty2] o.type #[s', x'] := by
    unfold Builtin.append_
    rw [ha0, ha1, h2, h3]; rfl
  rw [happ] at hexec
  unfold appendV at ha
  split at ha
  · cases ha
  rename_i e he
  have hu := elemP_ok he
  split at ha
  · cases ha
  rename_i es hes
  split at ha
  · cases ha
  rename_i m new hsrc
  obtain ⟨new', n1, n2, n3, n4⟩ := src_ok h hxv hsrc
  have hmi : (match d2 with | .int _ => true | _ => false) = false := by
    cases d2 <;> first | rfl | exact absurd rfl (hd2 _)
  have hnl : new'.length = m * es := by rw [n3.1]; exact n4
  split at ha
  · -- nil
    rename_i n _ 
    split at ha
    · rename_i hn0
      obtain ⟨_, p, rfl⟩ := hsv
      split at ha
      · rename_i hm0
        subst hm0
        simp only [Option.some.injEq, Prod.mk.injEq] at ha
        obtain ⟨rfl, rfl⟩ := ha
        have hnew0 : new' = [] := List.eq_nil_of_length_eq_zero (by omega)
        subst hnew0
        refine OpOk.value h (v := .slice p 0 0) ?_ ⟨rfl, p, rfl⟩
        rw [hexec (r := .ok (.slice p 0 0) w)]; rfl
        unfold Builtin.append_
        cases p <;> simp [run_under hu, run_under hu2, run_sizeOf hes, n1, n2 _ _ rfl, storeCells]
      · split at ha
        · rename_i hroom
          obtain ⟨i, z, r1, r2, r3, r4⟩ := roomOk_ok hroom
          have hei : es = i.size := by simpa [sizeP, r1] using hes.symm
          subst hei
          obtain ⟨cap, hc1, hrun⟩ := run_append_grows X.P w ty ty2 o.type e hu hu2 hd2 r1 r2 r3 (A := p) (n := 0) (c := 0) (x := x') (m := m) (old := []) (new := new') (firstCells_empty _ _ _ p) (n1 _ _) (n2 _ _ rfl) (firstCells_empty _ _ _ p) (n2 _ _ rfl) (by omega) (by simpa using r4)
          rw [Nat.zero_add] at hrun hc1
          refine OpOk.newSl h (hexec hrun) rfl rfl rfl (by simp) (fun k hk => heap_alloc_old' w.drew _ hk) (heap_alloc_new' w.drew _) (C := _) (T := e) (fz := (0, 0)) ?_ (by simp) hc1 ?_ ha
          · have := n3.toVP_arr (Builtin.zeroCells z.cells (cap - m))
            simpa using this
          · have hz := zeroCells_size z.cells (cap - m)
            simp only [List.append_toArray, List.nil_append, Array.size_append, List.size_toArray, hz, hnl, r3]
            rw [← Nat.add_mul]
            exact Nat.mul_le_mul_right _ (by omega)
        · cases ha
    · cases ha
  · -- an object
    rename_i b n _
    split at ha
    · rename_i ob hb
      split at ha
      · rename_i hcond
        obtain ⟨hwr, hlim, hoes, hle⟩ := hcond
        obtain ⟨_, hlt, o', c', rfl, hcase⟩ := hsv
        simp only at hlt hcase
        obtain ⟨C, T, fz, g1, g2, g3, g4, g5⟩ := h.vp hb
        have hc0 : n ≤ c' := by rcases hcase with ⟨_, h, _⟩ | ⟨rfl, rfl⟩ <;> omega
        have ges : (μ b).es = es := by rw [g3, hoes]
        split at ha
        · rename_i hm0
          subst hm0
          simp only [Option.some.injEq, Prod.mk.injEq] at ha
          obtain ⟨rfl, rfl⟩ := ha
          refine OpOk.value h (v := .slice (some ⟨(μ b).blk, o', none⟩) n c') ?_ ⟨rfl, hlt, o', c', rfl, hcase⟩
          have hnew0 : new' = [] := List.eq_nil_of_length_eq_zero (by rw [hnl]; simp)
          rw [hexec (r := .ok (.slice (some ⟨(μ b).blk, o', none⟩) n c') w)]; rfl
          unfold Builtin.append_
          simp [run_under hu, run_under hu2, run_sizeOf hes, n1, n2 _ _ rfl, hc0, hnew0, storeCells]
        · split at ha
          · rename_i hm0 hroom
            obtain ⟨i, z, r1, r2, r3, r4⟩ := roomOk_ok hroom
            have hei : es = i.size := by simpa [sizeP, r1] using hes.symm
            subst hei
            have hp : VL μ H.length (ob.cells.take (n * i.size)) (C.toList.take (n * i.size)) := by
              have := g4.part 0 (n * i.size) (by simpa using hle)
              simpa using this
            by_cases hroomy : n + m ≤ c'
            · -- in place
              have ho' : o' = 0 ∧ c' * i.size ≤ C.size := by
                rcases hcase with ⟨e1, _, e3⟩ | ⟨e1, e2⟩
                · rw [ges, ← g2] at e3; exact ⟨e1, by omega⟩
                · omega
              obtain ⟨rfl, hcz⟩ := ho'
              have hfit : n * i.size + m * i.size ≤ C.size := by rw [← Nat.add_mul]; exact Nat.le_trans (Nat.mul_le_mul_right _ hroomy) hcz
              have hcn : new.all isCell = true := by
                have hq := ha
                unfold newSlice at hq
                split at hq
                · rename_i hall
                  rw [List.all_append, Bool.and_eq_true] at hall
                  exact hall.2
                · simp at hq
              have hst := run_storeCells_blk X.P (μ b).blk (n * i.size) T fz new' 0 C w g1 (by rw [hnl]; simpa using hfit) (g5 hwr) (n3.oneCell hcn)
              unfold newSlice at ha
              split at ha
              · simp only [Option.some.injEq, Prod.mk.injEq] at ha
                obtain ⟨rfl, rfl⟩ := ha
                have hre := h.reuse hb hwr
                have hbn : getO (H.set b none ++ [some ob]) H.length = some ob := by
                  have := getO_append_new (H := H.set b none) (x := some ob)
                  simpa using this
                have hblk : (if H.length = H.length then μ b else μ H.length) = μ b := by simp
                have hN : (H.set b none ++ [some ob]).length = H.length + 1 := by simp
                have hvp : VP (fun c => if c = H.length then μ b else μ c) (H.set b none ++ [some ob]).length (ob.cells.take (n * i.size) ++ new) (setCells C.toList (n * i.size) new').toArray := by
                  rw [setCells_eq new' C.toList (n * i.size) (by rw [hnl]; simpa using hfit)]
                  exact ((hp.append n3).mono (Ext.upd _ _ _) (by simp)).toVP_app
                have hset := hre.setObj hbn hwr (C := C) (C' := (setCells C.toList (n * i.size) new').toArray) (T := T) (fz := fz) (by simp only [if_true]; exact g1) (by simp [length_setCells]) hvp
                have hHe : (H.set b none ++ [some ob]).set H.length (some { ob with cells := ob.cells.take (n * i.size) ++ new }) = H.set b none ++ [some ⟨true, i.size, ob.cells.take (n * i.size) ++ new⟩] := by
                  rw [List.set_append_right _ _ (by simp)]
                  simp [hwr, hoes]
                rw [hHe] at hset
                simp only [if_true] at hset
                refine ⟨.value (.slice (some ⟨(μ b).blk, 0, none⟩) (n + m) c'), _, _, _, lam, ?_, .inl rfl, Ext.upd _ _ _, by simp, hset.put o.dst ?_⟩
                · rw [hexec (r := .ok (.slice (some ⟨(μ b).blk, 0, none⟩) (n + m) c') _)]; rfl
                  unfold Builtin.append_
                  simp only [Nat.add_zero] at hst
                  simp [run_under hu, run_under hu2, run_sizeOf hes, n1, n2 _ _ rfl, hroomy, Addr.add_lit, hst]
                · exact ⟨rfl, by simp, 0, c', by simp, .inl ⟨rfl, hroomy, by simp only [List.length_set, if_true]; rw [ges, ← g2]; simpa using hcz⟩⟩
              · cases ha
            · -- a new block
              have hold : ∀ w' : World, w'.heap = w.heap → (Builtin.firstCells i.size n (.slice (some ⟨(μ b).blk, o', none⟩) n c')).run X.P w' = .ok (C.toList.take (n * i.size)).toArray w' := by
                intro w' hw'
                rcases hcase with ⟨rfl, e2, e3⟩ | ⟨rfl, rfl⟩
                · show (loadCells ⟨(μ b).blk, 0, none⟩ (n * i.size)).run X.P w' = _
                  have := run_loadCells_blk X.P (w := w') (o := 0) (n := n * i.size) (by rw [hw']; exact g1) (by have := g4.1; omega)
                  simpa using this
                · show (loadCells ⟨(μ b).blk, o', none⟩ (0 * i.size)).run X.P w' = _
                  rw [Nat.zero_mul]
                  exact run_loadCells_list (P := X.P) w' ⟨(μ b).blk, o', none⟩ [] (by simp)
              obtain ⟨cap, hc1, hrun⟩ := run_append_grows X.P w ty ty2 o.type e hu hu2 hd2 r1 r2 r3 (hold w rfl) (n1 _ _) (n2 _ _ rfl) (hold w.drew rfl) (n2 _ _ rfl) (by omega) (by simpa using r4)
              have hk := h.kill b
              have hlenH : (H.set b none).length = H.length := by simp
              have hok : OpOk X S A w0 μ lam (H.set b none) a w o t (.val v) H1 := by
                refine OpOk.newSl hk (hexec hrun) rfl rfl rfl (by simp) (fun k hk => heap_alloc_old' w.drew _ hk) (heap_alloc_new' w.drew _) (C := _) (T := e) (fz := (0, 0)) ?_ (by simp) hc1 ?_ ha
                · rw [hlenH]
                  have := (hp.append n3).toVP_arr (Builtin.zeroCells z.cells (cap - (n + m)))
                  simpa using this
                · have hz := zeroCells_size z.cells (cap - (n + m))
                  have hlp : (C.toList.take (n * i.size)).length = n * i.size := by rw [hp.1]; simp; omega
                  simp only [List.append_toArray, Array.size_append, List.size_toArray, List.length_append, hz, hnl, r3, hlp]
                  rw [← Nat.add_mul, ← Nat.add_mul]
                  exact Nat.mul_le_mul_right _ (by omega)
              obtain ⟨nx, w1, v1, μ1, lam1, k1, k2, k3, k4, k5⟩ := hok
              exact ⟨nx, w1, v1, μ1, lam1, k1, k2, by rw [hlenH] at k3; exact k3, by rw [hlenH] at k4; exact k4, k5⟩
          · cases ha
      · cases ha
    · cases ha
  · cases ha
end
end Go.Proofs.Ytmgofjgfmcmceaa
end
section
namespace Go.Proofs.Ytmgofjgfmcmceaa
open Go.RowKit

section
variable {X : Ctx} {S A : Nat → Prop} {w0 : World} {μ : Mu} {lam : Nat → Nat} {t : List TV} {H : Hp} {a : Act} {w : World} {o : Oper}

theorem run_sliceBound_ok (P : Program) (w : World) (k : IntKind) (i : Int) (y : Nat) (c : BoundsCode) (h0 : 0 ≤ i) (h1 : i ≤ (y : Int)) : (Instr.sliceBound (.int k i) y c).run P w = .ok i.toNat w := by
  simp [Instr.sliceBound, asIntOf, h0, h1]

/-- A bound: given, or not. -/
def bnd (X : Ctx) (t : List TV) (lo : Option Operand) (d : Int) : Option Int :=
  match lo with
  | none => some d
  | some z => (evv X t z).bind intOf?

theorem bnd_ok (h : Rel X S A w0 μ lam t H a w) {lo : Option Operand} {d i : Int} (hb : bnd X t lo d = some i) : (lo = none ∧ i = d) ∨ ∃ z k, lo = some z ∧ a.eval z = .int k i := by
  cases lo with
  | none => simp [bnd] at hb; exact .inl ⟨rfl, hb.symm⟩
  | some z =>
    obtain ⟨k, hk⟩ := intOf_ok h (show (evv X t z).bind intOf? = some i from hb)
    exact .inr ⟨z, k, rfl, hk⟩

theorem run_bounds (h : Rel X S A w0 μ lam t H a w) {lo hi : Option Operand} {l hh : Int} {n c : Nat} (hl : bnd X t lo 0 = some l) (hh' : bnd X t hi (n : Int) = some hh) (h0 : 0 ≤ l) (h1 : l ≤ hh) (h2 : hh ≤ (n : Int)) (hc : n ≤ c) :
    (Instr.sliceBounds true n c (lo.map a.eval) (hi.map a.eval) none).run X.P w = .ok (l.toNat, hh.toNat, c) w := by
  have hhc : hh ≤ (c : Int) := by omega
  have hlh : l ≤ ((hh.toNat : Nat) : Int) := by omega
  rcases bnd_ok h hl with ⟨rfl, rfl⟩ | ⟨z, k, rfl, ez⟩
  · rcases bnd_ok h hh' with ⟨rfl, rfl⟩ | ⟨y, k', rfl, ey⟩
    · simp [Instr.sliceBounds]
    · simp [Instr.sliceBounds, ey, run_sliceBound_ok X.P w k' hh c _ (by omega) hhc]
  · rcases bnd_ok h hh' with ⟨rfl, rfl⟩ | ⟨y, k', rfl, ey⟩
    · have : l ≤ ((n : Nat) : Int) := by omega
      simp [Instr.sliceBounds, ez, run_sliceBound_ok X.P w k l n _ h0 this]
    · simp [Instr.sliceBounds, ez, ey, run_sliceBound_ok X.P w k' hh c _ (by omega) hhc, run_sliceBound_ok X.P w k l hh.toNat _ h0 hlh]

theorem op_slice (h : Rel X S A w0 μ lam t H a w) {ty : TypeId} {z : Operand} {lo hi : Option Operand} (ho : o.op = .slice ty z lo hi none) {e : TypeId} (hu : X.P.underlying ty = some (.slice e)) {es : Nat} (hs : sizeP X.P e = some es)
    {Ad : Option Addr} {n c0 : Nat} (hz : evv X t z = some (.slice Ad n c0)) {l hh : Int} (hl : bnd X t lo 0 = some l) (hh' : bnd X t hi (n : Int) = some hh) (h0 : 0 ≤ l) (h1 : l ≤ hh) (h2 : hh ≤ (n : Int)) {v : Value}
    (hv : (Ad = none ∧ v = .slice none 0 0) ∨ (∃ b off ob, Ad = some ⟨b, off, none⟩ ∧ getO H b = some ob ∧ ob.es = es ∧ v = .slice (some ⟨b, off + l.toNat * es, none⟩) (hh.toNat - l.toNat) (hh.toNat - l.toNat))) :
    OpOk X S A w0 μ lam H a w o t (.val v) H := by
  have hzv := h.evv hz
  have hexec : ∀ {z' : Value}, a.eval z = z' → (execOp a.eval o).run X.P w = ((Instr.slice ty z' (lo.map a.eval) (hi.map a.eval) none).run X.P w).andThen fun v w => .ok (.value v) w := by
    rintro z' rfl
    simp [execOp, ho, Instr.sliceAt, run_under hu]
  rcases hv with ⟨rfl, rfl⟩ | ⟨b, off, ob, rfl, hb, hes, rfl⟩
  · obtain ⟨rfl, p, he⟩ := hzv
    have hr := run_bounds h hl hh' h0 h1 h2 (Nat.le_refl 0)
    have hl0 : l.toNat = 0 := by omega
    have hh0 : hh.toNat = 0 := by omega
    rw [hl0, hh0] at hr
    refine OpOk.value h (v := .slice p 0 0) ?_ ⟨rfl, p, rfl⟩
    rw [hexec he]
    cases p <;> simp [Instr.slice, run_under hu, hr, run_sizeOf hs]
  · obtain ⟨_, hlt, o', c', he, hcase⟩ := hzv
    simp only at hlt he hcase
    have hnc : n ≤ c' := by rcases hcase with ⟨_, h, _⟩ | ⟨rfl, rfl⟩ <;> omega
    have hr := run_bounds h hl hh' h0 h1 h2 hnc
    have ges : (μ b).es = es := by obtain ⟨C, T, fz, _, _, g3, _⟩ := h.heap b ob hb; rw [g3, hes]
    have hexe := hexec he
    have hlc : l.toNat ≤ c' := by omega
    by_cases hcl : c' = l.toNat
    · refine OpOk.value h (v := .slice (some ⟨(μ b).blk, o', none⟩) (hh.toNat - l.toNat) (c' - l.toNat)) ?_ ⟨rfl, hlt, o', c' - l.toNat, rfl, .inr ⟨by omega, by omega⟩⟩
      rw [hexe]
      subst hcl
      simp [Instr.slice, run_under hu, hr, run_sizeOf hs]
    · refine OpOk.value h (v := .slice (some ⟨(μ b).blk, o' + l.toNat * es, none⟩) (hh.toNat - l.toNat) (c' - l.toNat)) ?_ ⟨rfl, hlt, o' + l.toNat * es, c' - l.toNat, rfl, ?_⟩
      · rw [hexe]
        simp [Instr.slice, run_under hu, hr, run_sizeOf hs, hcl, Addr.add_lit]
      · rcases hcase with ⟨rfl, _, hcap⟩ | ⟨rfl, rfl⟩
        · refine .inl ⟨rfl, by omega, ?_⟩
          rw [ges] at hcap ⊢
          have : l.toNat * es + (c' - l.toNat) * es = c' * es := by rw [← Nat.add_mul]; congr 1; omega
          show o' + l.toNat * es + (c' - l.toNat) * es ≤ (μ b).sz
          omega
        · exfalso; omega

theorem getD_noRef {z : List Value} (hz : z.all noRef = true) (i : Nat) : noRef (z.getD i default) = true := by
  rw [List.getD_eq_getElem?_getD]
  cases hi : z[i]? with
  | none => rfl
  | some v => exact List.all_eq_true.1 hz v (List.mem_of_getElem? hi)

theorem arr_get! (z : Array Value) (i : Nat) : z[i]! = z.toList.getD i default := by
  rw [List.getD_eq_getElem?_getD, Array.getElem?_toList]
  simp [Array.getElem!_eq_getD, Array.getD_eq_getD_getElem?]

theorem zeros_eq (z : Array Value) (n : Nat) : ((Array.range n).map (z[· % z.size]!)) = (zeros z.toList n).toArray := by
  apply Array.ext'
  simp only [Array.toList_map, Array.toList_range, zeros]
  apply List.map_congr_left
  intro i _
  rw [arr_get!]; simp

theorem zeros_rel (μ : Mu) (N : Nat) {z : List Value} (hz : z.all noRef = true) (n : Nat) : VL μ N (zeros z n) (zeros z n) :=
  VL.of_noRef (fun v hv => by obtain ⟨i, _, rfl⟩ := List.mem_map.1 hv; exact getD_noRef hz _)

set_option maxRecDepth 100000 in
theorem op_makeSlice (h : Rel X S A w0 μ lam t H a w) {ty : TypeId} {l c : Operand} (ho : o.op = .makeSlice ty l c) {e : TypeId} (he : elemP X.P ty = some e) {n : Int} (hl : evv X t l = some (.int .i64 n)) (hc : evv X t c = some (.int .i64 n))
    {es : Nat} (hs : sizeP X.P e = some es) {z : Value} (hz : zeroP X.P e = some z) (h0 : 0 ≤ n) (hroom : roomOk X.P e n.toNat = true) (hnr : z.cells.toList.all noRef = true) {v : Value} {H1 : Hp}
    (hn : newSlice H es n.toNat (zeros z.cells.toList (n.toNat * es)) = some (v, H1)) : OpOk X S A w0 μ lam H a w o t (.val v) H1 := by
  have e1 : a.eval l = .int .i64 n := h.evv hl
  have e2 : a.eval c = .int .i64 n := h.evv hc
  obtain ⟨i, z', r1, r2, r3, r4, r5⟩ := roomOk_ok hroom
  have hei : es = i.size := by simpa [sizeP, r1] using hs.symm
  have hez : z = z' := by have : zeroP X.P e = some z' := by simp [zeroP, r1, r2]
                          rw [hz] at this; simpa using this
  subst hei hez
  obtain ⟨k, rfl⟩ := Int.eq_ofNat_of_zero_le h0
  simp only [Int.toNat_natCast] at r4 r5 hn
  have hw64 : IntKind.i64.wrap (k : Int) = k := by
    rw [IntKind.wrap_i64]; omega
  have hbig : ¬ (281474976710656 < (i.bytes : Int) * (k : Int)) := by
    have h1 : i.bytes * k ≤ (k + 1000) * i.bytes * 4 := by
      have : (k + 1000) * i.bytes * 4 = i.bytes * (k + 1000) * 4 := by rw [Nat.mul_comm (k + 1000)]
      rw [this, Nat.mul_assoc]
      exact Nat.mul_le_mul_left _ (by omega)
    have h2 : i.bytes * k ≤ 281474976710656 := Nat.le_trans h1 r5
    have h3 : ((i.bytes * k : Nat) : Int) ≤ ((281474976710656 : Nat) : Int) := Int.ofNat_le.2 h2
    rw [Int.natCast_mul] at h3
    omega
  have hnn : ¬ ((k : Int) < 0) := by omega
  have hcells : ((Array.range (k * i.size)).map (z.cells[· % z.cells.size]!)) = (zeros z.cells.toList (k * i.size)).toArray := zeros_eq z.cells _
  refine OpOk.newSl h (w1 := w.alloc (.cells (zeros z.cells.toList (k * i.size)).toArray e)) (C := (zeros z.cells.toList (k * i.size)).toArray) (T := e) (fz := (0, 0)) (n := k) (c := k) (es := i.size) (cs := zeros z.cells.toList (k * i.size)) ?_ rfl rfl rfl (by simp) (fun k hk => heap_alloc_old' w _ hk) (heap_alloc_new' w _) ?_ (by simp) (Nat.le_refl _) (by simp [zeros]) hn
  · by_cases hz0 : k * i.size = 0
    · simp only [execOp, ho, Instr.makeSlice, e1, e2, Sem.run_bind, run_under (elemP_ok he), Result.andThen_ok, asInt, asIntOf, Sem.run_pure, typeInfo, run_program, r1, hw64]
      simp [hnn, hbig, run_sizeOf hs, hz0, newRow, zeros]
      rw [show Array.range 0 = #[] from rfl]
      simp
    · simp only [execOp, ho, Instr.makeSlice, e1, e2, Sem.run_bind, run_under (elemP_ok he), Result.andThen_ok, asInt, asIntOf, Sem.run_pure, typeInfo, run_program, r1, hw64]
      simp [hnn, hbig, run_sizeOf hs, hz0, newRow, run_zeroV hz, hcells]
  · have := (zeros_rel μ H.length hnr (k * i.size)).toVP
    exact this
end
end Go.Proofs.Ytmgofjgfmcmceaa
end
section
namespace Go.Proofs.Ytmgofjgfmcmceaa
open Go.RowKit

section
variable {X : Ctx} {S A : Nat → Prop} {w0 : World} {μ : Mu} {lam : Nat → Nat} {t : List TV} {H : Hp} {a : Act} {w : World} {o : Oper}

theorem op_copy (h : Rel X S A w0 μ lam t H a w) {lim : Nat} {c : Call} (ho : o.op = .call c) (hcal : c.callee = .builtin .copy) {dO so : Operand} {ty : TypeId} (h0 : c.args[0]? = some dO) (h1 : c.args[1]? = some so)
    (h2 : c.argTypes[0]? = some ty) {d s : Value} (hd : evv X t dO = some d) (hs : evv X t so = some s) {v : Value} {H1 : Hp} (ha : copyV X.P lim H ty d s = some (v, H1)) : OpOk X S A w0 μ lam H a w o t (.val v) H1 := by
  have hdv := h.evv hd
  have hsv := h.evv hs
  generalize hd' : a.eval dO = d' at hdv
  generalize hs' : a.eval so = s' at hsv
  have ha0 : (c.args.map a.eval)[0]? = some d' := by simp [h0, hd']
  have ha1 : (c.args.map a.eval)[1]? = some s' := by simp [h1, hs']
  have hexec : ∀ {r : Result Value}, (Builtin.copy_ #[ty] o.type #[d', s']).run X.P w = r → (execOp a.eval o).run X.P w = r.andThen fun v w => .ok (.value v) w := by
    rintro r rfl
    have e : Builtin.copy_ c.argTypes o.type (c.args.map a.eval) = Builtin.copy_ #[ty] o.type #[d', s'] := by
      unfold Builtin.copy_
      rw [ha0, ha1, h2]; rfl
    simp [execOp, ho, resolve, hcal, invoke, builtin, e]
  unfold copyV at ha
  split at ha
  · cases ha
  rename_i e he
  have hu := elemP_ok he
  split at ha
  · cases ha
  rename_i es hes
  split at ha
  · rename_i b off n _
    obtain ⟨_, hlt, o', c', rfl, hcase⟩ := hdv
    simp only at hcase hlt
    split at ha
    · rename_i ob b2 off2 n2 _ hb
      obtain ⟨_, hlt2, o2, c2, rfl, hcase2⟩ := hsv
      simp only at hcase2 hlt2
      split at ha
      · rename_i ob2 hb2
        dsimp only at ha
        split at ha
        · rename_i hcond
          obtain ⟨hwr, hlim, e1, e2, e3, e4, e5⟩ := hcond
          simp only [Option.some.injEq, Prod.mk.injEq] at ha
          obtain ⟨rfl, rfl⟩ := ha
          obtain ⟨C, T, fz, g1, g2, g3, g4, g5⟩ := h.vp hb
          have hsrcc : srcCells H es (.slice (some ⟨b2, off2, none⟩) (Nat.min n2 n) 0) = some (Nat.min n2 n, (ob2.cells.drop off2).take (Nat.min n2 n * es)) := by
            have hle : off2 + Nat.min n2 n * es ≤ ob2.cells.length := by
              have : Nat.min n2 n * es ≤ n2 * es := Nat.mul_le_mul_right _ (Nat.min_le_left _ _)
              omega
            simp only [srcCells, hb2]
            rw [if_pos ⟨e2, hle⟩]
          have hc2 : Nat.min n2 n ≤ n2 := Nat.min_le_left _ _
          have hsv2 : VT μ H.length (.slice (some ⟨b2, off2, none⟩) (Nat.min n2 n) 0) (.slice (some ⟨(μ b2).blk, o2, none⟩) (Nat.min n2 n) c2) := by
            refine ⟨rfl, hlt2, o2, c2, rfl, ?_⟩
            rcases hcase2 with ⟨f1, f2, f3⟩ | ⟨f1, f2⟩
            · exact .inl ⟨f1, Nat.le_trans hc2 f2, f3⟩
            · exact .inr ⟨by omega, f2⟩
          obtain ⟨new', n1, n2', n3, n4⟩ := src_ok h hsv2 hsrcc
          have hnl : new'.length = Nat.min n2 n * es := by rw [n3.1]; exact n4
          have hfc : (Builtin.firstCells es (Nat.min n2 n) (.slice (some ⟨(μ b2).blk, o2, none⟩) n2 c2)).run X.P w = .ok new'.toArray w := n2' X.P w rfl
          have hk : Nat.min n2 n * es ≤ n * es := Nat.mul_le_mul_right _ (Nat.min_le_right _ _)
          rcases hcase with ⟨rfl, f2, f3⟩ | ⟨rfl, f2⟩
          · have hst := run_storeCells_blk X.P (μ b).blk o' T fz new' 0 C w g1 (by rw [hnl]; have := g4.1; omega) (g5 hwr) (n3.oneCell e5)
            simp only [Nat.add_zero] at hst
            have hset := h.setObj hb hwr g1 (C' := (setCells C.toList o' new').toArray) (by simp [length_setCells]) (cs' := setCells ob.cells o' ((ob2.cells.drop off2).take (Nat.min n2 n * es))) (VP.setCells _ _ _ n3 (by simpa using g4))
            refine ⟨.value (.int .i64 (Nat.min n2 n : Nat)), _, _, μ, lam, ?_, .inl rfl, Ext.refl _ _, by simp, hset.put o.dst rfl⟩
            rw [hexec (r := .ok (.int .i64 (Nat.min n2 n : Nat)) _)]; rfl
            unfold Builtin.copy_
            simp [run_under hu, Builtin.lenOf, run_sizeOf hes, hfc, hst, goInt]
          · have hz : Nat.min n2 0 = 0 := by simp
            have hnn : new' = [] := List.eq_nil_of_length_eq_zero (by rw [hnl, hz]; simp)
            subst hnn
            have hHe : H.set b (some { ob with cells := setCells ob.cells off ((ob2.cells.drop off2).take (Nat.min n2 0 * es)) }) = H := by
              rw [hz, Nat.zero_mul, List.take_zero]
              simp only [setCells]
              apply List.ext_getElem?
              intro k
              rw [List.getElem?_set]
              split
              · rename_i ek; subst ek
                unfold getO at hb
                cases hh : H[b]? with
                | none => simp [hh] at hb
                | some x => simp [hh] at hb; subst hb; simp []
              · rfl
            rw [hHe]
            refine OpOk.value h (v := .int .i64 (Nat.min n2 0 : Nat)) ?_ rfl
            rw [hexec (r := .ok (.int .i64 (Nat.min n2 0 : Nat)) w)]; rfl
            unfold Builtin.copy_
            simp at hfc
            simp [run_under hu, Builtin.lenOf, run_sizeOf hes, hfc, storeCells, goInt]
        · cases ha
      · cases ha
    · rename_i ob n2 _ hb
      split at ha
      · rename_i hn2
        simp only [Option.some.injEq, Prod.mk.injEq] at ha
        obtain ⟨rfl, rfl⟩ := ha
        obtain ⟨_, p, rfl⟩ := hsv
        refine OpOk.value h (v := .int .i64 0) ?_ rfl
        rw [hexec (r := .ok (.int .i64 0) w)]; rfl
        unfold Builtin.copy_
        have hf := firstCells_empty X.P w es p
        simp [run_under hu, Builtin.lenOf, run_sizeOf hes, hf, storeCells, goInt]
      · cases ha
    · cases ha
  · rename_i n _
    obtain ⟨hn0, pd, rfl⟩ := hdv
    split at ha
    · rename_i Ad n2 c2
      rw [if_pos hn0] at ha
      · simp only [Option.some.injEq, Prod.mk.injEq] at ha
        obtain ⟨rfl, rfl⟩ := ha
        refine OpOk.value h (v := .int .i64 0) ?_ rfl
        have hl : ∀ (x : Addr), (loadCells x 0).run X.P w = .ok #[] w := fun x => by simpa using run_loadCells_list (P := X.P) w x [] (by simp)
        rw [hexec (r := .ok (.int .i64 0) w)]; rfl
        unfold Builtin.copy_
        cases Ad with
        | none => obtain ⟨_, p, rfl⟩ := hsv; have hf := firstCells_empty X.P w es p; cases pd <;> cases p <;> simp [run_under hu, Builtin.lenOf, run_sizeOf hes, Builtin.firstCells, storeCells, goInt, hl]
        | some Ad => obtain ⟨_, _, o2, c2', rfl, _⟩ := hsv; cases pd <;> simp [run_under hu, Builtin.lenOf, run_sizeOf hes, Builtin.firstCells, storeCells, goInt, hl]
    · cases ha
  · cases ha

theorem op_bytesToString (h : Rel X S A w0 μ lam t H a w) {src dst : TypeId} {z : Operand} (ho : o.op = .convert src dst z) {e : TypeId} (hu : X.P.underlying src = some (.slice e)) (hd : X.P.underlying dst = some .string) (he : X.P.underlying e = some (.int .u8))
    {Ad : Option Addr} {n c : Nat} (hz : evv X t z = some (.slice Ad n c)) {m : Nat} {cs : List Value} (hs : srcCells H 1 (.slice Ad n c) = some (m, cs)) {ns : List Int} (hn : cs.mapM byteOf? = some ns) :
    OpOk X S A w0 μ lam H a w o t (.val (.string ⟨(ns.map fun n => UInt8.ofNat n.toNat).toArray⟩)) H := by
  have hzv := h.evv hz
  have hcs := byteOf_ok hn
  refine OpOk.value h (v := .string (strOfNums ns)) ?_ rfl
  have hrun : (convert src dst (a.eval z)).run X.P w = .ok (.string (strOfNums ns)) w := by
    cases Ad with
    | none =>
      obtain ⟨hn0, he0⟩ := hzv
      subst hn0
      simp [srcCells] at hs
      obtain ⟨_, rfl⟩ := hs
      simp at hn
      subst hn
      obtain ⟨p, he0⟩ := he0
      rw [he0]
      cases p with
      | none => exact run_convert_bytes_nil w src e hu he 0 0 dst hd
      | some x =>
        have hl : (loadCells x 0).run X.P w = .ok (([] : List Int).map (Value.int .u8)).toArray w := by simpa using run_loadCells_list (P := X.P) w x [] (by simp)
        rw [run_convert_bytes_string w src dst e _ 0 0 hu he hd, run_bytesToString w x 0 0 [] hl, foldl_push_bytes]
        simp [strOfNums, ByteArray.empty, ByteArray.emptyWithCapacity]
        try rfl
    | some ad =>
      obtain ⟨b, off, sp⟩ := ad
      obtain ⟨hsp, hlt, o', c', he0, hcase⟩ := hzv
      simp only at hsp hlt hcase he0
      subst hsp
      unfold srcCells at hs
      simp only at hs
      split at hs
      · rename_i ob hb
        split at hs
        · rename_i hcond
          obtain ⟨f1, f2⟩ := hcond
          simp only [Option.some.injEq, Prod.mk.injEq, Nat.mul_one] at hs f2
          obtain ⟨rfl, rfl⟩ := hs
          obtain ⟨C, T, fz, g1, g2, g3, g4, g5⟩ := h.vp hb
          have hlen : ns.length = n := by
            have := congrArg List.length hcs
            simp at this; omega
          rw [he0]
          refine run_convert_bytes_arg w src e hu he (μ b).blk o' n c' ns hlen (fun i hi => ?_) dst hd
          rcases hcase with ⟨rfl, k2, k3⟩ | ⟨k1, k2⟩
          · have hci : ((ob.cells.drop o').take n)[i]? = some (.int .u8 (ns.getD i 0)) := by
              rw [hcs, List.getElem?_map]
              simp [List.getD_eq_getElem?_getD, List.getElem?_eq_getElem (show i < ns.length by omega)]
            rw [List.getElem?_take, if_pos hi, List.getElem?_drop] at hci
            obtain ⟨x', q1, q2⟩ := g4.2 _ _ hci
            have : x' = .int .u8 (ns.getD i 0) := q2
            subst this
            simp [World.cell?, g1, q1]
          · exfalso; omega
        · cases hs
      · cases hs
  simp [execOp, ho, hrun]

theorem op_stringToBytes (h : Rel X S A w0 μ lam t H a w) {src dst : TypeId} {z : Operand} (ho : o.op = .convert src dst z) {u : TypeDesc} (hu : X.P.underlying src = some u) {e : TypeId} (hd : X.P.underlying dst = some (.slice e)) (he : X.P.underlying e = some (.int .u8))
    {s : ByteArray} (hz : evv X t z = some (.string s)) {v : Value} {H1 : Hp} (hn : newSlice H 1 s.size (s.data.toList.map fun b => .int .u8 b.toNat) = some (v, H1)) : OpOk X S A w0 μ lam H a w o t (.val v) H1 := by
  have he0 : a.eval z = .string s := h.evv hz
  have hrun := Lib.run_convert_string_bytes (P := X.P) w src dst e s hu hd he
  refine OpOk.newSl h (w1 := Lib.bytesWorld w e s) (C := Lib.bytesCells w e s) (T := e) (fz := ((Lib.bytesCells w e s).size, (Lib.bytesCells w e s).size + 1)) (c := grownCap w s.size 0 e) ?_ rfl rfl rfl ?_ ?_ ?_ ?_ ?_ ?_ ?_ hn
  · simp [execOp, ho, he0, hrun]
  · rw [Lib.bytesWorld_size]; omega
  · exact fun k hk => Lib.bytesWorld_at_old w e s k hk
  · exact Lib.bytesWorld_at_new w e s
  · have hl : VL μ H.length (s.data.toList.map fun b => Value.int .u8 b.toNat) (s.data.toList.map fun b => Value.int .u8 b.toNat) :=
      VL.of_all (fun v hv => by obtain ⟨b, _, rfl⟩ := List.mem_map.1 hv; rfl)
    have := hl.toVP_arr (Array.replicate (grownCap w s.size 0 e - s.size) (.int .u8 0))
    have e1 : (s.data.toList.map fun b => Value.int .u8 b.toNat).toArray = s.data.map fun b => Value.int .u8 b.toNat := by apply Array.ext'; simp
    rw [e1] at this
    exact this
  · intro i hi
    simp; omega
  · exact grownCap_ge w s.size 0 e
  · have := grownCap_ge w s.size 0 e
    have e2 : s.data.size = s.size := rfl
    simp only [Lib.bytesCells, Array.size_append, Array.size_map, Array.size_replicate, e2]
    omega

/-! ### composite values -/
theorem foldl_set_rel {N : Nat} (off : Nat) : ∀ (l l' : List (Value × Nat)) (cs cs' : Array Value), l'.length = l.length → (∀ (i : Nat) x k, l[i]? = some (x, k) → ∃ x', l'[i]? = some (x', k) ∧ VC μ N x x') → VL μ N cs.toList cs'.toList →
    VL μ N (l.foldl (fun cs (c, j) => cs.setIfInBounds (off + j) c) cs).toList (l'.foldl (fun cs (c, j) => cs.setIfInBounds (off + j) c) cs').toList
  | [], l', cs, cs', hl, _, h => by
    have : l' = [] := List.eq_nil_of_length_eq_zero (by simpa using hl)
    subst this; exact h
  | (x, k) :: l, l', cs, cs', hl, hr, h => by
    cases l' with
    | nil => simp at hl
    | cons y l' =>
      obtain ⟨x', h1, h2⟩ := hr 0 x k rfl
      simp at h1
      subst h1
      simp only [List.foldl_cons]
      refine foldl_set_rel off l l' _ _ (by simpa using hl) (fun i z k' hz => by simpa using hr (i + 1) z k' (by simpa using hz)) ?_
      have := h.set h2 (off + k)
      simpa using this

/-- Parts, one beside the other. -/
def PartsR (μ : Mu) (N : Nat) (ps ps' : List (Nat × Value)) : Prop := ps'.length = ps.length ∧ ∀ (i : Nat) (k : Nat) (v : Value), ps[i]? = some (k, v) → ∃ v', ps'[i]? = some (k, v') ∧ VT μ N v v'

theorem cells_rel' {v v' : Value} {N : Nat} (h : VT μ N v v') (hc : v.cells.toList.all isCell = true) : VL μ N v.cells.toList v'.cells.toList := by
  rcases h.cases with ⟨vs, vs', rfl, rfl, _⟩ | h
  · simp [Value.cells, isCell] at hc
  · rcases h.cases with ⟨cs, cs', rfl, rfl, h2⟩ | h
    · exact h2
    · have h1 : v.cells = #[v] := by cases v <;> first | rfl | exact h.elim
      have hcv : isCell v = true := by rw [h1] at hc; simpa using hc
      have h2 : v'.cells = #[v'] := by have := h.oneCell hcv; cases v' <;> first | rfl | simp [Value.oneCell'] at this
      rw [h1, h2]
      exact VL.cons h (VL.nil _ _)

theorem fill_rel {N : Nat} (place : Nat → Option (Nat × Nat)) : ∀ (ps ps' : List (Nat × Value)) (cs cs' : Array Value), PartsR μ N ps ps' → (∀ p ∈ ps, p.2.cells.toList.all isCell = true) → VL μ N cs.toList cs'.toList → ∀ {r : Array Value}, Instr.fill place cs ps = some r →
    ∃ r' : Array Value, Instr.fill place cs' ps' = some r' ∧ VL μ N r.toList r'.toList
  | [], ps', cs, cs', hp, _, h, r, hr => by
    have : ps' = [] := List.eq_nil_of_length_eq_zero (by have := hp.1; simpa using this)
    subst this
    simp only [Instr.fill, Option.some.injEq] at hr
    subst hr
    exact ⟨cs', rfl, h⟩
  | (k, v) :: ps, ps', cs, cs', hp, hc, h, r, hr => by
    cases ps' with
    | nil => have := hp.1; simp at this
    | cons p ps' =>
      obtain ⟨v', h1, h2⟩ := hp.2 0 k v rfl
      simp at h1
      subst h1
      have hv := cells_rel' h2 (hc (k, v) (by simp))
      have hsz : v'.cells.size = v.cells.size := by have := hv.1; simpa using this
      have hcs : cs'.size = cs.size := by have := h.1; simpa using this
      unfold Instr.fill at hr ⊢
      cases hpl : place k with
      | none => rw [hpl] at hr; cases hr
      | some x =>
        obtain ⟨off, size⟩ := x
        rw [hpl] at hr
        simp only at hr ⊢
        rw [hsz, hcs]
        split at hr
        · cases hr
        · rename_i hcond
          rw [if_neg hcond]
          refine fill_rel place ps ps' _ _ ⟨by have := hp.1; simpa using this, fun i k' u hu => by simpa using hp.2 (i + 1) k' u (by simpa using hu)⟩ (fun p hp' => hc p (by simp [hp'])) ?_ hr
          rw [← Array.foldl_toList, ← Array.foldl_toList]
          exact foldl_set_rel (μ := μ) (N := N) off v.cells.zipIdx.toList v'.cells.zipIdx.toList cs cs' (by simp [hsz]) (fun i x k' hx => by
            simp only [Array.getElem?_toList, Array.getElem?_zipIdx, Option.map_eq_some_iff, Prod.mk.injEq] at hx ⊢
            obtain ⟨y, hy, rfl, rfl⟩ := hx
            obtain ⟨x', q1, q2⟩ := hv.2 i y (by simpa using hy)
            exact ⟨x', ⟨x', by simpa using q1, rfl, rfl⟩, q2⟩) h

theorem parts_ok (h : Rel X S A w0 μ lam t H a w) {parts : Array (Nat × Operand)} {ps : List (Nat × Value)} (hp : parts.toList.mapM (fun p => (evv X t p.2).map fun v => (p.1, v)) = some ps) : PartsR μ H.length ps (parts.map fun (i, x) => (i, a.eval x)).toList := by
  have gen : ∀ (l : List (Nat × Operand)) (ps : List (Nat × Value)), l.mapM (fun p => (evv X t p.2).map fun v => (p.1, v)) = some ps → PartsR μ H.length ps (l.map fun (i, x) => (i, a.eval x)) := by
    intro l
    induction l with
    | nil => intro ps hp; simp at hp; subst hp; exact ⟨rfl, fun i k v hi => by simp at hi⟩
    | cons p l ih =>
      intro ps hp
      rw [List.mapM_cons] at hp
      cases he : evv X t p.2 with
      | none => simp [he] at hp
      | some v =>
        cases hm : l.mapM (fun p => (evv X t p.2).map fun v => (p.1, v)) with
        | none => simp [he, hm] at hp
        | some r =>
          simp [he, hm] at hp
          subst hp
          obtain ⟨i1, i2⟩ := ih r hm
          refine ⟨by simp at i1 ⊢; exact i1, fun i k u hi => ?_⟩
          cases i with
          | zero => simp at hi; obtain ⟨rfl, rfl⟩ := hi; exact ⟨_, rfl, h.evv he⟩
          | succ i => simpa using i2 i k u (by simpa using hi)
  have := gen parts.toList ps hp
  simpa using this

theorem op_build (h : Rel X S A w0 μ lam t H a w) {ty : TypeId} {parts : Array (Nat × Operand)} (ho : o.op = .build ty parts) {ps : List (Nat × Value)} (hp : parts.toList.mapM (fun p => (evv X t p.2).map fun v => (p.1, v)) = some ps)
    (hc : ps.all (fun p => p.2.cells.toList.all isCell) = true) {z : Value} (hz : zeroP X.P ty = some z) (hnr : z.cells.toList.all noRef = true) {v : Value} (hv : pureRun X.P (Instr.build ty ps.toArray) = some v) : OpOk X S A w0 μ lam H a w o t (.val v) H := by
  have hps := parts_ok h hp
  generalize hps' : (parts.map fun (i, x) => (i, a.eval x)) = ps' at hps
  have hzz : ∀ z', pureRun X.P (zeroValue ty) = some z' → z' = z := by
    intro z' h1
    have h2 := pureRun_ok X.P _ h1 w
    rw [run_zeroV hz] at h2
    simpa using h2.symm
  have hrun : ∃ v', (Instr.build ty ps').run X.P w = .ok v' w ∧ VT μ H.length v v' := by
    unfold Instr.build at hv ⊢
    rw [pureRun_bind] at hv
    cases h1 : pureRun X.P (zeroValue ty) with
    | none => rw [h1] at hv; cases hv
    | some z' =>
      have := hzz z' h1
      subst this
      rw [h1] at hv
      simp only [Option.bind_some] at hv
      rw [pureRun_bind] at hv
      cases h2 : pureRun X.P (underlying ty) with
      | none => rw [h2] at hv; cases hv
      | some d =>
        rw [h2] at hv
        simp only [Option.bind_some] at hv
        rw [Sem.run_bind, pureRun_ok _ _ h1, Result.andThen_ok, Sem.run_bind, pureRun_ok _ _ h2, Result.andThen_ok]
        have hz0 : VL μ H.length z'.cells.toList z'.cells.toList := VL.of_noRef (fun v hv => List.all_eq_true.1 hnr v hv)
        have hall : ∀ p ∈ ps, p.2.cells.toList.all isCell = true := fun p hp => List.all_eq_true.1 hc p hp
        cases d with
        | struct fields =>
          simp only at hv ⊢
          rw [pureRun_bind] at hv
          rw [Sem.run_bind]
          generalize (fields.mapM fun f => do pure (f.offset, ← sizeOf f.type) : Sem (Array (Nat × Nat))) = q at hv ⊢
          cases h3 : pureRun X.P q with
          | none => rw [h3] at hv; cases hv
          | some places =>
            rw [h3] at hv
            simp only [Option.bind_some] at hv
            rw [pureRun_ok _ _ h3, Result.andThen_ok]
            cases h4 : Instr.fill (places[·]?) z'.cells ps with
            | none => simp only [h4] at hv; cases hv
            | some r =>
              simp only [h4] at hv
              obtain ⟨r', e1, e2⟩ := fill_rel _ ps ps'.toList _ _ hps hall hz0 h4
              simp only [e1]
              cases hv
              exact ⟨_, rfl, r', rfl, e2⟩
        | array n e =>
          simp only at hv ⊢
          rw [pureRun_bind] at hv
          rw [Sem.run_bind]
          cases h3 : pureRun X.P (sizeOf e) with
          | none => rw [h3] at hv; cases hv
          | some size =>
            rw [h3] at hv
            simp only [Option.bind_some] at hv
            rw [pureRun_ok _ _ h3, Result.andThen_ok]
            cases h4 : Instr.fill (fun i => some (i * size, size)) z'.cells ps with
            | none => simp only [h4] at hv; cases hv
            | some r =>
              simp only [h4] at hv
              obtain ⟨r', e1, e2⟩ := fill_rel _ ps ps'.toList _ _ hps hall hz0 h4
              simp only [e1]
              cases hv
              exact ⟨_, rfl, r', rfl, e2⟩
        | _ => cases hv
  obtain ⟨v', q1, q2⟩ := hrun
  refine OpOk.value h (v := v') ?_ q2
  simp only [execOp, ho, Sem.run_bind, hps', q1, Result.andThen_ok, Sem.run_pure]
end
end Go.Proofs.Ytmgofjgfmcmceaa
end
section
namespace Go.Proofs.Ytmgofjgfmcmceaa
open Go.RowKit

section
variable {X : Ctx} {S A : Nat → Prop} {w0 : World} {μ : Mu} {lam : Nat → Nat} {t : List TV} {H : Hp} {a : Act} {w : World} {o : Oper}

theorem op_buildSlice (h : Rel X S A w0 μ lam t H a w) {ty : TypeId} {len : Nat} {parts : Array (Nat × Operand)} (ho : o.op = .buildSlice ty len parts) {ps : List (Nat × Value)} (hp : parts.toList.mapM (fun p => (evv X t p.2).map fun v => (p.1, v)) = some ps)
    (hc : ps.all (fun p => p.2.cells.toList.all isCell) = true) {e : TypeId} (he : elemP X.P ty = some e) {es : Nat} (hs : sizeP X.P e = some es) (hle : len * es ≤ 2 ^ 24) {z : Array Value}
    (hz : (if len * es = 0 then some #[] else (zeroP X.P e).map (·.cells)) = some z) (hnr : z.toList.all noRef = true) {cs : Array Value} (hf : Instr.fill (fun i => some (i * es, es)) ((Array.range (len * es)).map (z[· % z.size]!)) ps = some cs) {v : Value} {H1 : Hp}
    (hn : newSlice H es len cs.toList = some (v, H1)) : OpOk X S A w0 μ lam H a w o t (.val v) H1 := by
  have hps := parts_ok h hp
  generalize hps' : (parts.map fun (i, x) => (i, a.eval x)) = ps' at hps
  have hz0 : VL μ H.length ((Array.range (len * es)).map (z[· % z.size]!)).toList ((Array.range (len * es)).map (z[· % z.size]!)).toList := by
    rw [zeros_eq]; exact zeros_rel μ H.length hnr _
  obtain ⟨r', e1, e2⟩ := fill_rel _ ps ps'.toList _ _ hps (fun p hp => List.all_eq_true.1 hc p hp) hz0 hf
  have hfl : ∀ (l : List (Nat × Value)) (cs cs' : Array Value), Instr.fill (fun i => some (i * es, es)) cs l = some cs' → cs'.size = cs.size := by
    intro l
    induction l with
    | nil => intro cs cs' h; simp [Instr.fill] at h; rw [h]
    | cons p l ih =>
      intro cs cs' h
      obtain ⟨k, u⟩ := p
      unfold Instr.fill at h
      simp only at h
      split at h
      · cases h
      · rw [ih _ _ h, ← Array.foldl_toList]
        have : ∀ (q : List (Value × Nat)) (c : Array Value), (q.foldl (fun cs (x, j) => cs.setIfInBounds (k * es + j) x) c).size = c.size := by
          intro q
          induction q with
          | nil => intro c; rfl
          | cons y q ih => intro c; rw [List.foldl_cons, ih]; simp
        exact this _ _
  have hr' : r'.size = len * es := by rw [hfl _ _ _ e1]; simp
  have hrun : (Instr.buildSlice ty len ps').run X.P w = .ok (.slice (some ⟨w.heap.size, 0, none⟩) len len) (w.alloc (.cells r' e)) := by
    unfold Instr.buildSlice
    rw [Sem.run_bind, run_under (elemP_ok he), Result.andThen_ok]
    simp only [Sem.run_bind, run_sizeOf hs, Result.andThen_ok]
    rw [if_neg (by omega)]
    by_cases hz1 : len * es = 0
    · rw [if_pos hz1] at hz
      simp only [Option.some.injEq] at hz
      subst hz
      rw [if_pos hz1]
      simp only [Sem.run_bind, Sem.run_pure, Result.andThen_ok, e1]
      simp [newRow]
    · rw [if_neg hz1] at hz
      cases hzz : zeroP X.P e with
      | none => rw [hzz] at hz; cases hz
      | some z' =>
        rw [hzz] at hz
        simp only [Option.map_some, Option.some.injEq] at hz
        subst hz
        rw [if_neg hz1]
        simp only [Sem.run_bind, Sem.run_pure, run_zeroV hzz, Result.andThen_ok, e1]
        simp [newRow]
  refine OpOk.newSl h (w1 := w.alloc (.cells r' e)) (C := r') (T := e) (fz := (0, 0)) (n := len) (c := len) ?_ rfl rfl rfl (by simp) (fun k hk => heap_alloc_old' w _ hk) (heap_alloc_new' w _) ?_ (by simp) (Nat.le_refl _) (by rw [hr']; exact Nat.le_refl _) hn
  · simp only [execOp, ho, Sem.run_bind, hps', hrun, Result.andThen_ok, Sem.run_pure]
  · have := e2.toVP; simpa using this

theorem op_makeFunc (h : Rel X S A w0 μ lam t H a w) {fn : Fn} {first captured : Array Operand} (ho : o.op = .makeFunc fn first captured) {vs : List Value} (hc : captured.toList.mapM (evv X t) = some vs) (hf : first.isEmpty = true)
    (hp : vs.all (fun v => match v with | .pointer (some ⟨_, _, none⟩) => true | _ => false) = true) : OpOk X S A w0 μ lam H a w o t (.val (.func fn #[] vs.toArray)) H := by
  have hfe : first = #[] := by simpa using hf
  subst hfe
  have gen : ∀ (l : List Operand) (vs : List Value), l.mapM (evv X t) = some vs → vs.all (fun v => match v with | .pointer (some ⟨_, _, none⟩) => true | _ => false) = true →
      (l.map a.eval).length = vs.length ∧ ∀ (i : Nat) (x : Value), vs[i]? = some x → ∃ (b o : Nat), x = .pointer (some ⟨b, o, none⟩) ∧ b < H.length ∧ (l.map a.eval)[i]? = some (.pointer (some ⟨(μ b).blk, o, none⟩)) := by
    intro l
    induction l with
    | nil => intro vs hm _; simp at hm; subst hm; exact ⟨rfl, fun i x hi => by simp at hi⟩
    | cons z l ih =>
      intro vs hm hall
      rw [List.mapM_cons] at hm
      cases he : evv X t z with
      | none => simp [he] at hm
      | some v =>
        cases hr : l.mapM (evv X t) with
        | none => simp [he, hr] at hm
        | some r =>
          simp [he, hr] at hm
          subst hm
          simp only [List.all_cons, Bool.and_eq_true] at hall
          obtain ⟨i1, i2⟩ := ih r hr hall.2
          refine ⟨by simp at i1 ⊢; exact i1, fun i x hi => ?_⟩
          cases i with
          | zero =>
            simp at hi
            subst hi
            have hv := h.evv he
            have h1 := hall.1
            split at h1
            · rename_i b o'
              obtain ⟨_, q1, q2⟩ := hv
              exact ⟨b, o', rfl, q1, by simp [q2]⟩
            · cases h1
          | succ i => simpa using i2 i x (by simpa using hi)
  obtain ⟨g1, g2⟩ := gen _ _ hc hp
  refine OpOk.value h (v := .func fn #[] (captured.map a.eval)) (by simp [execOp, ho, Instr.makeFunc]) ⟨rfl, captured.map a.eval, rfl, by simpa using g1, fun i x hx => ?_⟩
  obtain ⟨b, o', q1, q2, q3⟩ := g2 i x (by simpa using hx)
  exact ⟨b, o', q1, q2, by simpa using q3⟩

theorem op_binScal (h : Rel X S A w0 μ lam t H a w) {op : BinOp} {ty ty2 : TypeId} {x y : Operand} (ho : o.op = .binOp op ty x y ty2) {v u : Value} (hx : evv X t x = some v) (hy : evv X t y = some u)
    (hs : (isScal v = true ∧ isScal u = true) ∨ (∃ cs cs' : Array Value, v = .agg cs ∧ u = .agg cs' ∧ cs.toList.all isScal = true ∧ cs'.toList.all isScal = true)) {r : Value} (hp : pureNext X.P (execOp (rho X t) o) = some r) : OpOk X S A w0 μ lam H a w o t (.val r) H := by
  have key : rho X t x = a.eval x ∧ rho X t y = a.eval y := by
    rcases hs with ⟨h1, h2⟩ | ⟨cs, cs', rfl, rfl, h1, h2⟩
    · exact ⟨rho_scal h hx h1, rho_scal h hy h2⟩
    · exact ⟨rho_agg h hx h1, rho_agg h hy h2⟩
  exact OpOk.gen h hp (by simp only [execOp, ho, key.1, key.2])

theorem op_binNil (h : Rel X S A w0 μ lam t H a w) {op : BinOp} {ty ty2 : TypeId} {x y : Operand} (ho : o.op = .binOp op ty x y ty2) {p : Option Addr} (hx : evv X t x = some (.pointer p)) (hy : evv X t y = some (.pointer none)) {b : Bool} {pe : TypeId} (hu : X.P.underlying ty = some (.pointer pe))
    (hb : (op = .eql ∧ b = p.isNone) ∨ (op = .neq ∧ b = p.isSome)) : OpOk X S A w0 μ lam H a w o t (.val (.bool b)) H := by
  have hxv := h.evv hx
  have hyv : a.eval y = .pointer none := h.evv hy
  have hp : ∃ q : Option Addr, a.eval x = .pointer q ∧ q.isNone = p.isNone := by
    cases p with
    | none => exact ⟨none, hxv, rfl⟩
    | some ad => obtain ⟨_, _, q⟩ := hxv; exact ⟨_, q, rfl⟩
  obtain ⟨q, e1, e2⟩ := hp
  have hq : q.isSome = p.isSome := by cases q <;> cases p <;> simp_all
  have hsp : ∀ w, (samePointer q none).run X.P w = .ok q.isNone w := by intro w; cases q <;> rfl
  refine OpOk.value h (v := .bool b) ?_ rfl
  have heq : (Op.equal ty (.pointer q) (.pointer none)).run X.P w = .ok q.isNone w := by
    have gen : ∀ d, (Op.equalIn (d + 1) ty (.pointer q) (.pointer none)).run X.P w = .ok q.isNone w := by
      intro d
      cases q <;> simp [Op.equalIn, run_under hu]
    exact gen 9999
  rcases hb with ⟨rfl, rfl⟩ | ⟨rfl, rfl⟩
  · simp [execOp, ho, e1, hyv, eqGuard, binOp, heq, e2]
  · simp [execOp, ho, e1, hyv, eqGuard, binOp, heq, e2]

/-- What a call leaves of memory. -/
structure Mem (X : Ctx) (S A : Nat → Prop) (w0 : World) (μ : Mu) (H : Hp) (w : World) : Prop where
  os : w.os = w0.os
  tape : w.tape = w0.tape
  output : w.output = w0.output
  size : w0.heap.size ≤ w.heap.size
  kept : ∀ k : Nat, k < w0.heap.size → ¬ S k → w.heap[k]? = w0.heap[k]?
  wrote : ∀ (b : Nat) (o : AObj), getO H b = some o → o.wr = true → S (μ b).blk ∨ w0.heap.size ≤ (μ b).blk
  live : ∀ (b : Nat) (o : AObj), getO H b = some o → A (μ b).blk ∨ w0.heap.size ≤ (μ b).blk
  heap : HR μ H w
  inj : ∀ (b c : Nat) (o o' : AObj), getO H b = some o → getO H c = some o' → o.wr = true → b ≠ c → (μ b).blk ≠ (μ c).blk
  glob : ∀ (g b : Nat), X.glob g = some b → b < H.length ∧ (μ b).blk = g

/-- Blocks that may be written; blocks in use. -/
def wrS (μ : Mu) (H : Hp) (k : Nat) : Prop := ∃ b o, getO H b = some o ∧ o.wr = true ∧ (μ b).blk = k
def liveS (μ : Mu) (H : Hp) (k : Nat) : Prop := ∃ b o, getO H b = some o ∧ (μ b).blk = k

theorem Rel.mem (h : Rel X S A w0 μ lam t H a w) : Mem X S A w0 μ H w := ⟨h.os, h.tape, h.output, h.size, h.kept, h.wrote, h.live, h.heap, h.inj, h.glob⟩
theorem Rel.start (h : Rel X S A w0 μ lam t H a w) : Mem X (wrS μ H) (liveS μ H) w μ H w :=
  ⟨rfl, rfl, rfl, Nat.le_refl _, fun _ _ _ => rfl, fun b o hb hw => .inl ⟨b, o, hb, hw, rfl⟩, fun b o hb => .inl ⟨b, o, hb, rfl⟩, h.heap, h.inj, h.glob⟩

def ArgsR (μ : Mu) (N : Nat) (vs : List Value) (vs' : Array Value) : Prop := vs'.size = vs.length ∧ ∀ (i : Nat) (x : Value), vs[i]? = some x → ∃ x', vs'[i]? = some x' ∧ VT μ N x x'

/-- What a call hands back. -/
def Back (X : Ctx) (μ : Mu) (H : Hp) (w : World) (r : Value) (H1 : Hp) (r' : Value) (w1 : World) : Prop :=
  ∃ μ1 : Mu, Ext H.length μ μ1 ∧ H.length ≤ H1.length ∧ VT μ1 H1.length r r' ∧ Mem X (wrS μ H) (liveS μ H) w μ1 H1 w1

/-- Calls are answered as the machine answers them. -/
def CallSound (X : Ctx) (call : CallF) : Prop := ∀ (g : FuncId) (vs : List Value) (H : Hp) (r : Value) (H1 : Hp), call g vs H = some (r, H1) → ∀ (μ : Mu) (w : World) (vs' : Array Value), ArgsR μ H.length vs vs' → Mem X (wrS μ H) (liveS μ H) w μ H w →
  (∃ r' w1, (callFunc g vs').run X.P w = .ok (.value r') w1 ∧ Back X μ H w r H1 r' w1) ∨
  ((callFunc g vs').run X.P w = .ok (.enter g vs') w ∧ Calls X.P g vs' w fun e w1 => ∃ r', e = .returned r' ∧ Back X μ H w r H1 r' w1)

/-- Behind a call the frame stands as before. -/
theorem Rel.back (h : Rel X S A w0 μ lam t H a w) {r : Value} {H1 : Hp} {r' : Value} {w1 : World} (hb : Back X μ H w r H1 r' w1) (dst : Option Tmp) :
    ∃ μ1, Ext H.length μ μ1 ∧ H.length ≤ H1.length ∧ Rel X S A w0 μ1 lam (putT t dst (.val r)) H1 (a.put dst r') w1 := by
  obtain ⟨μ1, he, hN, hr, m⟩ := hb
  refine ⟨μ1, he, hN, ?_⟩
  have hkeep : ∀ i cs, t[i]? = some (.box cs) → w1.heap[lam i]? = w.heap[lam i]? := by
    intro i cs hi
    refine m.kept _ (h.boxLt hi) ?_
    rintro ⟨b, o, hb, _, hk⟩
    exact h.boxObj i cs b o hi hb hk
  have hrel : Rel X S A w0 μ1 lam t H1 a w1 := by
    refine { os := m.os.trans h.os, tape := m.tape.trans h.tape, output := m.output.trans h.output, size := Nat.le_trans h.size m.size, kept := ?_, wrote := ?_, live := ?_, heap := m.heap, inj := m.inj, glob := m.glob, len := h.len, slot := ?_, boxNew := h.boxNew, boxObj := ?_, boxBox := h.boxBox, plain := h.plain }
    · intro k hk hs
      rw [m.kept k (Nat.lt_of_lt_of_le hk h.size) (by
        rintro ⟨b, o, hb, hw, rfl⟩
        rcases h.wrote b o hb hw with h1 | h1
        · exact hs h1
        · omega)]
      exact h.kept k hk hs
    · intro b o hb hw
      rcases m.wrote b o hb hw with ⟨b0, o0, h1, h2, h3⟩ | h1
      · rw [← h3]; exact h.wrote b0 o0 h1 h2
      · exact .inr (Nat.le_trans h.size h1)
    · intro b o hb
      rcases m.live b o hb with ⟨b0, o0, h1, h3⟩ | h1
      · rw [← h3]; exact h.live b0 o0 h1
      · exact .inr (Nat.le_trans h.size h1)
    · intro i x hx
      obtain ⟨v, h1, h2⟩ := h.slot i x hx
      refine ⟨v, h1, ?_⟩
      cases x with
      | box cs => exact ⟨h2.1, h2.2.mono he hN (hkeep i cs hx)⟩
      | val u => exact VT.mono he hN h2
      | lptr d o => exact h2
      | undef => trivial
    · intro i cs b o hi hb
      rcases m.live b o hb with ⟨b0, o0, h1, h3⟩ | h1
      · rw [← h3]; exact h.boxObj i cs b0 o0 hi h1
      · have := h.boxLt hi; omega
  exact hrel.put dst hr

/-- What an operation owes, calls among them. -/
def OpWp (X : Ctx) (S A : Nat → Prop) (w0 : World) (μ : Mu) (H : Hp) (a : Act) (w : World) (o : Oper) (t1 : List TV) (x : TV) (H1 : Hp) : Prop :=
  ∀ (K : Act → World → Prop) (Q : Exit → Act → World → Prop), (∀ (v : Value) (μ1 : Mu) (lam1 : Nat → Nat) (w1 : World), Ext H.length μ μ1 → H.length ≤ H1.length → Rel X S A w0 μ1 lam1 (putT t1 o.dst x) H1 (a.put o.dst v) w1 → K (a.put o.dst v) w1) → o.wp X.P a w K Q

theorem OpOk.wp {t1 : List TV} {x : TV} {H1 : Hp} (h : OpOk X S A w0 μ lam H a w o t1 x H1) : OpWp X S A w0 μ H a w o t1 x H1 := by
  intro K Q hK
  obtain ⟨nx, w1, v, μ1, lam1, hrun, hnx, he, hN, hr⟩ := h
  unfold Oper.wp
  rw [hrun]
  rcases hnx with rfl | ⟨rfl, rfl⟩
  · exact hK v μ1 lam1 w1 he hN hr
  · exact hK undef μ1 lam1 w1 he hN hr

theorem args_ok (h : Rel X S A w0 μ lam t H a w) : ∀ {l : List Operand} {vs : List Value}, l.mapM (evv X t) = some vs → (l.map a.eval).length = vs.length ∧ ∀ (i : Nat) (x : Value), vs[i]? = some x → ∃ x', (l.map a.eval)[i]? = some x' ∧ VT μ H.length x x'
  | [], vs, hm => by simp at hm; subst hm; exact ⟨rfl, fun i x hi => by simp at hi⟩
  | z :: l, vs, hm => by
    rw [List.mapM_cons] at hm
    cases he : evv X t z with
    | none => simp [he] at hm
    | some v =>
      cases hr : l.mapM (evv X t) with
      | none => simp [he, hr] at hm
      | some r =>
        simp [he, hr] at hm
        subst hm
        obtain ⟨i1, i2⟩ := args_ok h hr
        refine ⟨by simp at i1 ⊢; exact i1, fun i x hi => ?_⟩
        cases i with
        | zero => simp at hi; subst hi; exact ⟨_, rfl, h.evv he⟩
        | succ i => simpa using i2 i x (by simpa using hi)

theorem op_call (h : Rel X S A w0 μ lam t H a w) {call : CallF} (hcs : CallSound X call) {c : Call} (ho : o.op = .call c) {gO : Operand} (hcal : c.callee = .value gO) {g : FuncId} {first captured : Array Value} (hg : evv X t gO = some (.func (.func g) first captured))
    (_hf : first.isEmpty = true) {vs : List Value} (hvs : c.args.toList.mapM (evv X t) = some vs) {r : Value} {H1 : Hp} (hc : call g (vs ++ captured.toList) H = some (r, H1)) : OpWp X S A w0 μ H a w o t (.val r) H1 := by
  intro K Q hK
  obtain ⟨hfe, cap', hge, hcs', hcap⟩ := h.evv hg
  obtain ⟨a1, a2⟩ := args_ok h hvs
  have hargs : ArgsR μ H.length (vs ++ captured.toList) (c.args.map a.eval ++ cap') := by
    refine ⟨by simp at a1; simp [a1, hcs'], fun i x hx => ?_⟩
    rw [List.getElem?_append] at hx
    rw [Array.getElem?_append]
    have hl : (c.args.map a.eval).size = vs.length := by simpa using a1
    rw [hl]
    split at hx
    · rename_i hlt
      rw [if_pos hlt]
      obtain ⟨x', h1, h2⟩ := a2 i x hx
      exact ⟨x', by simpa using h1, h2⟩
    · rename_i hlt
      rw [if_neg hlt]
      obtain ⟨b, o', h1, h2, h3⟩ := hcap _ x (by simpa using hx)
      subst h1
      exact ⟨_, h3, rfl, h2, rfl⟩
  have hexec : (execOp a.eval o).run X.P w = (callFunc g (c.args.map a.eval ++ cap')).run X.P w := by
    simp [execOp, ho, resolve, hcal, hge, Deferred.ofValue, invoke]
  unfold Oper.wp
  rw [hexec]
  rcases hcs g _ H r H1 hc μ w _ hargs h.start with ⟨r', w1, h1, h2⟩ | ⟨h1, h2⟩
  · rw [h1]
    obtain ⟨μ1, e1, e2, e3⟩ := h.back h2 o.dst
    exact hK r' μ1 lam w1 e1 e2 e3
  · rw [h1]
    rw [Oper.upon_enter]
    refine h2.mono ?_
    rintro e w1 ⟨r', rfl, hb⟩
    obtain ⟨μ1, e1, e2, e3⟩ := h.back hb o.dst
    exact hK r' μ1 lam w1 e1 e2 e3
end
end Go.Proofs.Ytmgofjgfmcmceaa
end
section
namespace Go.Proofs.Ytmgofjgfmcmceaa
open Go.RowKit

section
variable {X : Ctx} {S A : Nat → Prop} {w0 : World} {μ : Mu} {lam : Nat → Nat} {t : List TV} {H : Hp} {a : Act} {w : World} {o : Oper}

theorem map_val {α : Type} {x : Option α} {f : α → TV × List TV × Hp} {r : TV × List TV × Hp} (h : x.map f = some r) : ∃ y, x = some y ∧ f y = r := by
  cases x with
  | none => cases h
  | some y => exact ⟨y, rfl, by simpa using h⟩

theorem ofV_ok {t t1 : List TV} {x : TV} {H1 : Hp} {y : Option (Value × Hp)} (h : ofV t y = some (x, t1, H1)) : ∃ v, y = some (v, H1) ∧ x = .val v ∧ t1 = t := by
  cases y with
  | none => cases h
  | some p => obtain ⟨v, H2⟩ := p; simp [ofV] at h; obtain ⟨rfl, rfl, rfl⟩ := h; exact ⟨v, rfl, rfl, rfl⟩

theorem stepOp_sound (h : Rel X S A w0 μ lam t H a w) {f : FuncId} {lim : Nat} {call : CallF} (hcs : CallSound X call) {x : TV} {t1 : List TV} {H1 : Hp} (hs : stepOp X f lim call t H o = some (x, t1, H1)) : OpWp X S A w0 μ H a w o t1 x H1 := by
  unfold stepOp at hs
  split at hs
  · -- move
    rename_i y hop
    simp only [Option.some.injEq, Prod.mk.injEq] at hs
    obtain ⟨rfl, rfl, rfl⟩ := hs
    exact (op_move h (.inl hop)).wp
  · rename_i y hop
    simp only [Option.some.injEq, Prod.mk.injEq] at hs
    obtain ⟨rfl, rfl, rfl⟩ := hs
    exact (op_move h (.inr hop)).wp
  · -- pick
    rename_i c y z hop
    split at hs
    · rename_i b hb
      simp only [Option.some.injEq, Prod.mk.injEq] at hs
      obtain ⟨rfl, rfl, rfl⟩ := hs
      exact (op_pick h hop hb).wp
    · cases hs
  · -- alloc
    rename_i e hop
    split at hs
    · rename_i z hz
      split at hs
      · rename_i hn
        exact (op_alloc h hop hz hn hs).wp
      · cases hs
    · cases hs
  · -- box
    rename_i e y hop
    split at hs
    · rename_i v hv
      exact (op_box h hop hv hs).wp
    · cases hs
  · -- build
    rename_i ty parts hop
    split at hs
    · rename_i ps hps
      split at hs
      · rename_i z hz
        split at hs
        · rename_i hcond
          simp only [Bool.and_eq_true] at hcond
          split at hs
          · rename_i v hv
            simp only [Option.some.injEq, Prod.mk.injEq] at hs
            obtain ⟨rfl, rfl, rfl⟩ := hs
            exact (op_build h hop hps hcond.2 hz hcond.1 hv).wp
          · cases hs
        · cases hs
      · cases hs
    · cases hs
  · -- buildSlice
    rename_i ty len parts hop
    split at hs
    · rename_i ps e hps he
      split at hs
      · rename_i es hes
        split at hs
        · rename_i hle
          split at hs
          · rename_i z hz
            split at hs
            · rename_i hcond
              simp only [Bool.and_eq_true] at hcond
              split at hs
              · rename_i cs hcs'
                obtain ⟨v, h1, rfl, rfl⟩ := ofV_ok hs
                exact (op_buildSlice h hop hps hcond.2 he hes hle hz hcond.1 hcs' h1).wp
              · cases hs
            · cases hs
          · cases hs
        · cases hs
      · cases hs
    · cases hs
  · -- load
    rename_i ty z hop
    split at hs
    · rename_i d off hp
      split at hs
      · rename_i cs hd
        obtain ⟨v, h1, h2⟩ := map_val hs
        simp only [Prod.mk.injEq] at h2
        obtain ⟨rfl, rfl, rfl⟩ := h2
        exact (op_load h hop hp (.inl ⟨d, off, cs, rfl, hd, h1⟩)).wp
      · cases hs
    · rename_i b off hp
      split at hs
      · rename_i ob hb
        obtain ⟨v, h1, h2⟩ := map_val hs
        simp only [Prod.mk.injEq] at h2
        obtain ⟨rfl, rfl, rfl⟩ := h2
        exact (op_load h hop hp (.inr ⟨b, off, ob, rfl, hb, h1⟩)).wp
      · cases hs
    · cases hs
  · -- store
    rename_i ty z y hop
    split at hs
    · rename_i d off v hp hv
      split at hs
      · rename_i cs hd
        obtain ⟨cs', h1, h2⟩ := map_val hs
        simp only [Prod.mk.injEq] at h2
        obtain ⟨rfl, rfl, rfl⟩ := h2
        exact (op_store_box h hop hp hv hd h1).wp
      · cases hs
    · rename_i b off v hp hv
      split at hs
      · rename_i ob hb
        split at hs
        · rename_i hcond
          obtain ⟨cs', h1, h2⟩ := map_val hs
          simp only [Prod.mk.injEq] at h2
          obtain ⟨rfl, rfl, rfl⟩ := h2
          exact (op_store_obj h hop hp hv hb hcond.1 h1).wp
        · cases hs
      · cases hs
    · cases hs
  · -- nilCheck
    rename_i z hop
    split at hs
    · rename_i p hp
      simp only [Option.some.injEq, Prod.mk.injEq] at hs
      obtain ⟨rfl, rfl, rfl⟩ := hs
      exact (op_nilCheck h hop hp).wp
    · cases hs
  · -- binOp
    rename_i op ty y z ty2 hop
    split at hs
    · rename_i p hy hz
      split at hs
      · rename_i pe hu
        simp only [Option.some.injEq, Prod.mk.injEq] at hs
        obtain ⟨rfl, rfl, rfl⟩ := hs
        exact (op_binNil h hop hy hz hu (.inl ⟨rfl, rfl⟩)).wp
      · rename_i pe hu
        simp only [Option.some.injEq, Prod.mk.injEq] at hs
        obtain ⟨rfl, rfl, rfl⟩ := hs
        exact (op_binNil h hop hy hz hu (.inr ⟨rfl, rfl⟩)).wp
      · cases hs
    · rename_i v u _ hy hz
      split at hs
      · rename_i hcond
        simp only [Bool.and_eq_true] at hcond
        obtain ⟨r, h1, h2⟩ := map_val hs
        simp only [Prod.mk.injEq] at h2
        obtain ⟨rfl, rfl, rfl⟩ := h2
        exact (op_binScal h hop hy hz (.inl hcond) h1).wp
      · split at hs
        · rename_i cs cs' _ _
          split at hs
          · rename_i hcond
            simp only [Bool.and_eq_true] at hcond
            obtain ⟨r, h1, h2⟩ := map_val hs
            simp only [Prod.mk.injEq] at h2
            obtain ⟨rfl, rfl, rfl⟩ := h2
            exact (op_binScal h hop hy hz (.inr ⟨cs, cs', rfl, rfl, hcond.1, hcond.2⟩) h1).wp
          · cases hs
        · cases hs
    · cases hs
  · -- unOp
    rename_i op ty z hop
    split at hs
    · rename_i v hv
      obtain ⟨r, h1, h2⟩ := map_val hs
      simp only [Prod.mk.injEq] at h2
      obtain ⟨rfl, rfl, rfl⟩ := h2
      exact (OpOk.gen h h1 (by simp only [execOp, hop, rho_evs h hv])).wp
    · cases hs
  · -- convert
    rename_i src dst z hop
    split at hs
    · rename_i ad n c hz
      split at hs
      · rename_i e hu hd
        split at hs
        · rename_i he hsz
          split at hs
          · rename_i m cs hsrc
            split at hs
            · rename_i ns hns
              simp only [Option.some.injEq, Prod.mk.injEq] at hs
              obtain ⟨rfl, rfl, rfl⟩ := hs
              exact (op_bytesToString h hop hu hd he hz hsrc hns).wp
            · cases hs
          · cases hs
        · cases hs
      · cases hs
    · rename_i s hz
      split at hs
      · rename_i e hu hd
        split at hs
        · rename_i he hsz
          obtain ⟨v, h1, rfl, rfl⟩ := ofV_ok hs
          exact (op_stringToBytes h hop hu hd he hz h1).wp
        · cases hs
      · rename_i hu hd
        simp only [Option.some.injEq, Prod.mk.injEq] at hs
        obtain ⟨rfl, rfl, rfl⟩ := hs
        have he : a.eval z = .string s := h.evv hz
        refine (OpOk.value h (v := .string s) ?_ (show TVR μ H.length lam (.val (.string s)) (.string s) from rfl)).wp
        simp [execOp, hop, he, convert, run_under hu, run_under hd]
      · cases hs
    · rename_i v _ _ hz
      split at hs
      · rename_i hsc
        obtain ⟨r, h1, h2⟩ := map_val hs
        simp only [Prod.mk.injEq] at h2
        obtain ⟨rfl, rfl, rfl⟩ := h2
        exact (OpOk.gen h h1 (by simp only [execOp, hop, rho_scal h hz hsc])).wp
      · cases hs
    · cases hs
  · -- makeFunc
    rename_i fn first captured hop
    split at hs
    · rename_i vs hvs hf
      split at hs
      · rename_i hall
        simp only [Option.some.injEq, Prod.mk.injEq] at hs
        obtain ⟨rfl, rfl, rfl⟩ := hs
        exact (op_makeFunc h hop hvs hf hall).wp
      · cases hs
    · cases hs
  · -- makeSlice
    rename_i ty l c hop
    split at hs
    · rename_i n m e hl hc he
      split at hs
      · rename_i es z hes hz
        split at hs
        · rename_i hcond
          obtain ⟨c1, rfl, c3, c4⟩ := hcond
          obtain ⟨v, h1, rfl, rfl⟩ := ofV_ok hs
          exact (op_makeSlice h hop he hl hc hes hz c1 c3 c4 h1).wp
        · cases hs
      · cases hs
    · cases hs
  · -- slice
    rename_i ty z lo hi mx hop
    split at hs
    · rename_i s hz
      split at hs
      · rename_i hcond
        simp only [Bool.and_eq_true] at hcond
        obtain ⟨r, h1, h2⟩ := map_val hs
        simp only [Prod.mk.injEq] at h2
        obtain ⟨rfl, rfl, rfl⟩ := h2
        have q1 : rho X t z = a.eval z := rho_scal h hz rfl
        have q2 : lo.map (rho X t) = lo.map a.eval := by
          cases lo with
          | none => rfl
          | some y =>
            have := hcond.1
            simp only [Option.all_some] at this
            obtain ⟨v, hv⟩ := Option.isSome_iff_exists.1 this
            simp [rho_evs h hv]
        have q3 : hi.map (rho X t) = hi.map a.eval := by
          cases hi with
          | none => rfl
          | some y =>
            have := hcond.2
            simp only [Option.all_some] at this
            obtain ⟨v, hv⟩ := Option.isSome_iff_exists.1 this
            simp [rho_evs h hv]
        exact (OpOk.gen h h1 (by simp only [execOp, hop, q1, q2, q3, Option.map_none])).wp
      · cases hs
    · rename_i ad n c hz
      split at hs
      · rename_i e l hh he hl hh'
        have hl' : bnd X t lo 0 = some l := by rw [← hl]; cases lo <;> rfl
        have hhi : bnd X t hi (n : Int) = some hh := by rw [← hh']; cases hi <;> rfl
        split at hs
        · rename_i es hes
          split at hs
          · rename_i hcond
            obtain ⟨c1, c2, c3⟩ := hcond
            split at hs
            · simp only [Option.some.injEq, Prod.mk.injEq] at hs
              obtain ⟨rfl, rfl, rfl⟩ := hs
              exact (op_slice h hop (elemP_ok he) hes hz hl' hhi c1 c2 c3 (.inl ⟨rfl, rfl⟩)).wp
            · rename_i b off
              split at hs
              · rename_i ob hb
                split at hs
                · rename_i hes'
                  simp only [Option.some.injEq, Prod.mk.injEq] at hs
                  obtain ⟨rfl, rfl, rfl⟩ := hs
                  exact (op_slice h hop (elemP_ok he) hes hz hl' hhi c1 c2 c3 (.inr ⟨b, off, ob, rfl, hb, hes', rfl⟩)).wp
                · cases hs
              · cases hs
            · cases hs
          · cases hs
        · cases hs
      · cases hs
    · cases hs
  · -- fieldAddr
    rename_i s z fl hop
    split at hs
    · rename_i p off ty hp hf
      simp only [Option.some.injEq, Prod.mk.injEq] at hs
      obtain ⟨rfl, rfl, rfl⟩ := hs
      exact (op_fieldAddr h hop hp hf).wp
    · cases hs
  · -- field
    rename_i s z fl hop
    split at hs
    · rename_i cs off ty hz hf
      obtain ⟨v, h1, h2⟩ := map_val hs
      simp only [Prod.mk.injEq] at h2
      obtain ⟨rfl, rfl, rfl⟩ := h2
      exact (op_field h hop hz hf h1).wp
    · cases hs
  · -- indexAddr
    rename_i ty z ix hop
    split at hs
    · rename_i len e i hu hi
      split at hs
      · rename_i p es hp hes
        cases hb : inB i len with
        | false => rw [hb] at hs; cases hs
        | true =>
          rw [hb] at hs
          simp only [cond_true, Option.some.injEq, Prod.mk.injEq] at hs
          obtain ⟨rfl, rfl, rfl⟩ := hs
          exact (op_indexAddr_arr h hop hu hi hp hes hb).wp
      · cases hs
    · rename_i e i hu hi
      split at hs
      · rename_i b off n c es hz hes
        cases hb : inB i n with
        | false => rw [hb] at hs; cases hs
        | true =>
          rw [hb] at hs
          simp only [cond_true, Option.some.injEq, Prod.mk.injEq] at hs
          obtain ⟨rfl, rfl, rfl⟩ := hs
          exact (op_indexAddr_sl h hop hu hi hz hes hb).wp
      · cases hs
    · cases hs
  · -- index
    rename_i ty z ix hop
    split at hs
    · rename_i s i hz hi
      obtain ⟨r, h1, h2⟩ := map_val hs
      simp only [Prod.mk.injEq] at h2
      obtain ⟨rfl, rfl, rfl⟩ := h2
      have q2 : rho X t ix = a.eval ix := by
        cases hv : evv X t ix with
        | none => rw [hv] at hi; cases hi
        | some v =>
          rw [hv] at hi
          have : isScal v = true := by cases v <;> first | rfl | (simp [intOf?] at hi)
          exact rho_scal h hv this
      exact (OpOk.gen h h1 (by simp only [execOp, hop, rho_scal h hz rfl, q2])).wp
    · rename_i cs i hz hi
      split at hs
      · rename_i len e hu
        split at hs
        · rename_i es hes
          cases hb : inB i len with
          | false => rw [hb] at hs; cases hs
          | true =>
            rw [hb] at hs
            simp only [cond_true] at hs
            obtain ⟨v, h1, h2⟩ := map_val hs
            simp only [Prod.mk.injEq] at h2
            obtain ⟨rfl, rfl, rfl⟩ := h2
            exact (op_index_arr h hop hz hi hu hes hb h1).wp
        · cases hs
      · cases hs
    · cases hs
  · -- extract
    rename_i z i hop
    split at hs
    · rename_i vs hz
      obtain ⟨v, h1, h2⟩ := map_val hs
      simp only [Prod.mk.injEq] at h2
      obtain ⟨rfl, rfl, rfl⟩ := h2
      exact (op_extract h hop hz h1).wp
    · cases hs
  · -- call
    rename_i c hop
    split at hs
    · -- len
      rename_i hcal
      split at hs
      · rename_i z hz hsz
        split at hs
        · rename_i ad n c e q1 q2
          simp only [Option.some.injEq, Prod.mk.injEq] at hs
          obtain ⟨rfl, rfl, rfl⟩ := hs
          have hzv := h.evv q1
          have hl : ∃ A' c', a.eval z = .slice A' n c' := by
            cases ad with
            | none => obtain ⟨rfl, p, e1⟩ := hzv; exact ⟨_, _, e1⟩
            | some ad => obtain ⟨_, _, o2, c2, e1, _⟩ := hzv; exact ⟨_, _, e1⟩
          obtain ⟨A', c', e1⟩ := hl
          obtain ⟨ty, hty, hu⟩ := Option.bind_eq_some_iff.1 q2
          refine (OpOk.value h (v := .int .i64 n) ?_ (show TVR μ H.length lam (.val (.int .i64 n)) (.int .i64 n) from rfl)).wp
          simp [execOp, hop, resolve, hcal, invoke, builtin, Builtin.len_, hty, hz, e1, run_under hu, goInt]
        · rename_i s q1 q2
          simp only [Option.some.injEq, Prod.mk.injEq] at hs
          obtain ⟨rfl, rfl, rfl⟩ := hs
          have e1 : a.eval z = .string s := h.evv q1
          obtain ⟨ty, hty, hu⟩ := Option.bind_eq_some_iff.1 q2
          refine (OpOk.value h (v := .int .i64 s.size) ?_ (show TVR μ H.length lam (.val (.int .i64 s.size)) (.int .i64 s.size) from rfl)).wp
          simp [execOp, hop, resolve, hcal, invoke, builtin, Builtin.len_, hty, hz, e1, run_under hu, goInt]
        · cases hs
      · cases hs
    · -- append
      rename_i hcal
      split at hs
      · rename_i sO xO ty ty2 h0 h1 h2 h3
        split at hs
        · rename_i s xx e q1 q2 q3
          obtain ⟨v, g1, rfl, rfl⟩ := ofV_ok hs
          exact (op_append h hop hcal h0 h1 h2 h3 q3 (by intro k; simp) q1 q2 g1).wp
        · rename_i s xx q1 q2 q3
          obtain ⟨v, g1, rfl, rfl⟩ := ofV_ok hs
          exact (op_append h hop hcal h0 h1 h2 h3 q3 (by intro k; simp) q1 q2 g1).wp
        · cases hs
      · cases hs
    · -- copy
      rename_i hcal
      split at hs
      · rename_i dO sO ty h0 h1 h2
        split at hs
        · rename_i d s q1 q2
          obtain ⟨v, g1, rfl, rfl⟩ := ofV_ok hs
          exact (op_copy h hop hcal h0 h1 h2 q1 q2 g1).wp
        · cases hs
      · cases hs
    · -- other builtins
      rename_i b _ _ _ hcal
      split at hs
      · rename_i hall
        obtain ⟨r, h1, h2⟩ := map_val hs
        simp only [Prod.mk.injEq] at h2
        obtain ⟨rfl, rfl, rfl⟩ := h2
        have q : c.args.map (rho X t) = c.args.map a.eval := by
          apply Array.map_congr_left
          intro z hz
          have := List.all_eq_true.1 hall z (by simpa using hz)
          obtain ⟨v, hv⟩ := Option.isSome_iff_exists.1 this
          exact rho_evs h hv
        exact (OpOk.gen h h1 (by simp only [execOp, hop, resolve, hcal, q])).wp
      · cases hs
    · -- a function's value
      rename_i gO hcal
      split at hs
      · rename_i g first captured vs hg hvs
        split at hs
        · rename_i hf
          obtain ⟨v, g1, rfl, rfl⟩ := ofV_ok hs
          exact op_call h hcs hop hcal hg hf hvs g1
        · cases hs
      · cases hs
    · cases hs
  · cases hs
end
end Go.Proofs.Ytmgofjgfmcmceaa
end
section
namespace Go.Proofs.Ytmgofjgfmcmceaa
open Go.RowKit

section
variable {X : Ctx} {S A : Nat → Prop} {w0 : World} {μ : Mu} {lam : Nat → Nat} {t : List TV} {H : Hp} {a : Act} {w : World}

theorem wantA_ok (h : Rel X S A w0 μ lam t H a w) {ops : Array Oper} {o : Oper} {b : Bool} (hw : wantA ops t o = some b) : Region.wanted o (yielded ops a.tmps) = b := by
  unfold wantA at hw
  unfold Region.wanted
  split at hw
  · rename_i hg; rw [hg]; simpa using hw
  · rename_i j want hg
    rw [hg]
    simp only
    split at hw
    · rename_i d hd
      have hy : yielded ops a.tmps j = match a.tmps[d]? with | some (.bool b) => some b | _ => none := by
        unfold yielded; rw [hd]; rfl
      rw [hy]
      rcases h.getD d with e | ⟨x, v, e, _, hv, hs⟩
      · rw [e] at hw; cases hw
      · rw [e] at hw
        rw [hv]
        cases x with
        | val u =>
          cases u with
          | bool b0 =>
            have : v = .bool b0 := hs
            subst this
            simp only [Option.some.injEq] at hw
            subst hw
            simp
          | tuple vs =>
            simp only at hw
            split at hw
            · simp only [Option.some.injEq] at hw
              subst hw
              obtain ⟨vs', rfl, _⟩ := hs
              rfl
            · cases hw
          | _ => cases hw
        | _ => cases hw
    · cases hw

theorem undef_rel (μ : Mu) (N : Nat) (lam : Nat → Nat) : TVR μ N lam (.val undef) undef := ⟨#[], rfl, rfl, fun i x hx => by simp at hx⟩

/-- One operation of a region. -/
theorem runOp_sound (h : Rel X S A w0 μ lam t H a w) {f : FuncId} {lim : Nat} {call : CallF} (hcs : CallSound X call) {ops : Array Oper} {o : Oper} {t1 : List TV} {H1 : Hp} (hr : runOp X f lim call ops t H o = some (t1, H1))
    {Q : Exit → Act → World → Prop} {K : Act → World → Prop} (hK : ∀ (μ1 : Mu) (lam1 : Nat → Nat) (a1 : Act) (w1 : World), Ext H.length μ μ1 → H.length ≤ H1.length → Rel X S A w0 μ1 lam1 t1 H1 a1 w1 → K a1 w1) :
    (if Region.wanted o (yielded ops a.tmps) = true then o.wp X.P a w K Q else K (a.put o.dst undef) w) := by
  unfold runOp at hr
  split at hr
  · rename_i hw
    rw [wantA_ok h hw, if_pos rfl]
    split at hr
    · rename_i x t' H' hs
      simp only [Option.some.injEq, Prod.mk.injEq] at hr
      obtain ⟨rfl, rfl⟩ := hr
      exact stepOp_sound h hcs hs K Q fun v μ1 lam1 w1 e1 e2 e3 => hK μ1 lam1 _ w1 e1 e2 e3
    · cases hr
  · rename_i hw
    rw [wantA_ok h hw, if_neg (by simp)]
    simp only [Option.some.injEq, Prod.mk.injEq] at hr
    obtain ⟨rfl, rfl⟩ := hr
    exact hK μ lam _ w (Ext.refl _ _) (Nat.le_refl _) (h.put o.dst (undef_rel _ _ _))
  · cases hr

theorem runOps_sound {f : FuncId} {lim : Nat} {call : CallF} (hcs : CallSound X call) {ops : Array Oper} {Q : Exit → Act → World → Prop} : ∀ (l : List Oper) {t : List TV} {H : Hp} {a : Act} {w : World} {μ : Mu} {lam : Nat → Nat}, Rel X S A w0 μ lam t H a w → ∀ {t1 : List TV} {H1 : Hp}, runOps X f lim call ops l t H = some (t1, H1) →
    (∀ (μ1 : Mu) (lam1 : Nat → Nat) (a1 : Act) (w1 : World), Ext H.length μ μ1 → H.length ≤ H1.length → Rel X S A w0 μ1 lam1 t1 H1 a1 w1 → Q .normal a1 w1) → wpList X.P ops Q l a w
  | [], t, H, a, w, μ, lam, h, t1, H1, hr, hK => by
    simp only [runOps, Option.some.injEq, Prod.mk.injEq] at hr
    obtain ⟨rfl, rfl⟩ := hr
    exact hK μ lam a w (Ext.refl _ _) (Nat.le_refl _) h
  | o :: l, t, H, a, w, μ, lam, h, t1, H1, hr, hK => by
    simp only [runOps] at hr
    split at hr
    · rename_i t' H' h1
      have := runOp_sound h hcs h1 (Q := Q) (K := wpList X.P ops Q l) fun μ1 lam1 a1 w1 e1 e2 e3 =>
        runOps_sound hcs l e3 hr fun μ2 lam2 a2 w2 e4 e5 e6 => hK μ2 lam2 a2 w2 (e1.trans e4 e2) (Nat.le_trans e2 e5) e6
      unfold wpList
      split at this
      · rename_i hw; rw [if_pos hw]; exact .inl this
      · rename_i hw; rw [if_neg hw]; exact this
    · cases hr

/-- Slots may be forgotten. -/
theorem Rel.forget (h : Rel X S A w0 μ lam t H a w) {t' : List TV} (hl : t'.length = t.length) (hf : ∀ (i : Nat) (x : TV), t'[i]? = some x → x = .undef ∨ t[i]? = some x) : Rel X S A w0 μ lam t' H a w := by
  have key : ∀ (i : Nat) (cs : List Value), t'[i]? = some (.box cs) → t[i]? = some (.box cs) := by
    intro i cs hi
    rcases hf i _ hi with e | e
    · cases e
    · exact e
  refine { h with len := by rw [hl]; exact h.len, slot := ?_, boxNew := ?_, boxObj := ?_, boxBox := ?_ }
  · intro i x hx
    rcases hf i x hx with rfl | e
    · have hi : i < t.length := by rw [← hl]; exact (List.getElem?_eq_some_iff.1 hx).1
      obtain ⟨v, h1, _⟩ := h.slot i _ (List.getElem?_eq_getElem hi)
      exact ⟨v, h1, trivial⟩
    · exact h.slot i x e
  · exact fun i cs hi => h.boxNew i cs (key i cs hi)
  · exact fun i cs b o hi hb => h.boxObj i cs b o (key i cs hi) hb
  · exact fun i j cs cs' hi hj => h.boxBox i j cs cs' (key i cs hi) (key j cs' hj)

theorem Rel.clr (h : Rel X S A w0 μ lam t H a w) (ks : List Nat) : Rel X S A w0 μ lam (clr ks t) H a w := by
  refine h.forget (by simp [Go.Proofs.Ytmgofjgfmcmceaa.clr]) fun i x hx => ?_
  simp only [Go.Proofs.Ytmgofjgfmcmceaa.clr, List.getElem?_map, List.getElem?_zipIdx, Option.map_map, Option.map_eq_some_iff, Function.comp] at hx
  obtain ⟨y, hy, rfl⟩ := hx
  split
  · exact .inr hy
  · exact .inl rfl

/-! ### rounds of a loop, jumps within a scope -/
/-- From the head of a round on. -/
def LoopWp (P : Program) (c : Code) (Q : Exit → Act → World → Prop) (a : Act) (w : World) : Prop := ∀ (b : Frame) (k : List Item) (cs : List Frame),
  ∃ e a' w', Q e a' w' ∧ Arrives P (lone (b.at a (.code c :: .inLoop c :: k)) cs w) b k cs e a' w'
theorem LoopWp.wp {P : Program} {c : Code} {Q : Exit → Act → World → Prop} (h : LoopWp P c Q a w) : (Code.loop c).wp P Q a w := by
  intro b k cs
  obtain ⟨e, a', w', hq, harr⟩ := h b k cs
  exact ⟨e, a', w', hq, .of_steps (.one step_loop) harr⟩
theorem LoopWp.round {P : Program} {c : Code} {Q : Exit → Act → World → Prop} (h : c.wp P (Exit.then (LoopWp P c Q) Q) a w) : LoopWp P c Q a w := by
  intro b k cs
  obtain ⟨e, a₁, w₁, hq, harr⟩ := h b (.inLoop c :: k) cs
  cases e with
  | normal =>
    obtain ⟨e₂, a₂, w₂, hq₂, harr₂⟩ := hq b k cs
    exact ⟨e₂, a₂, w₂, hq₂, .of_steps (Steps.trans harr (.one step_inLoop)) harr₂⟩
  | exit id => exact ⟨_, a₁, w₁, hq, .pass (x := .inLoop c) rfl (fun _ _ => .inl (by simp)) harr⟩
  | goto l => exact ⟨_, a₁, w₁, hq, .pass (x := .inLoop c) rfl (fun _ _ => .inl (by simp)) harr⟩
  | ret => exact ⟨_, a₁, w₁, hq, .pass (x := .inLoop c) rfl (fun _ _ => .inl (by simp)) harr⟩
  | panic ch => exact ⟨_, a₁, w₁, hq, .pass (x := .inLoop c) rfl (fun _ _ => .inl (by simp)) harr⟩
  | outgrown => exact ⟨_, a₁, w₁, hq, .pass (x := .inLoop c) rfl (fun _ _ => .inl (by simp)) harr⟩

/-- Within a scope, at some code. -/
def ScopeWp (P : Program) (c cur : Code) (Q : Exit → Act → World → Prop) (a : Act) (w : World) : Prop := ∀ (b : Frame) (k : List Item) (cs : List Frame),
  ∃ e a' w', Q e a' w' ∧ Arrives P (lone (b.at a (.code cur :: .inScope c :: k)) cs w) b k cs e a' w'
theorem ScopeWp.wp {P : Program} {c : Code} {Q : Exit → Act → World → Prop} (h : ScopeWp P c c Q a w) : (Code.scope c).wp P Q a w := by
  intro b k cs
  obtain ⟨e, a', w', hq, harr⟩ := h b k cs
  exact ⟨e, a', w', hq, .of_steps (.one step_scope) harr⟩
/-- What an end of the code within means. -/
def ScopeQ (P : Program) (c : Code) (Q : Exit → Act → World → Prop) : Exit → Act → World → Prop
  | .goto l, a, w => ∃ rest, findLabel c l = some rest ∧ ScopeWp P c rest Q a w
  | e, a, w => Q e a w
theorem ScopeWp.pass {P : Program} {c cur : Code} {Q : Exit → Act → World → Prop} (h : cur.wp P (ScopeQ P c Q) a w) : ScopeWp P c cur Q a w := by
  intro b k cs
  obtain ⟨e, a₁, w₁, hq, harr⟩ := h b (.inScope c :: k) cs
  cases e with
  | normal => exact ⟨.normal, a₁, w₁, hq, Steps.trans harr (.one step_inScope)⟩
  | exit id => exact ⟨.exit id, a₁, w₁, hq, fun k' hk => harr k' (by simp [exitTo, hk])⟩
  | goto l =>
    obtain ⟨rest, hf, hs⟩ := hq
    have hg : gotoIn l (.inScope c :: k) = some (.code rest :: .inScope c :: k) := by simp [gotoIn, hf]
    obtain ⟨e₂, a₂, w₂, hq₂, harr₂⟩ := hs b k cs
    exact ⟨e₂, a₂, w₂, hq₂, .of_steps (harr _ hg) harr₂⟩
  | ret => exact ⟨_, a₁, w₁, hq, harr⟩
  | panic ch => exact ⟨_, a₁, w₁, hq, harr⟩
  | outgrown => exact ⟨_, a₁, w₁, hq, harr⟩

def Ex.exit' : Ex → Exit
  | .normal => .normal
  | .exit id => .exit id
  | .goto l => .goto l
  | .ret => .ret

/-- Where code ends. -/
def Ends (X : Ctx) (S A : Nat → Prop) (w0 : World) (μ : Mu) (H : Hp) (e : Ex) (t1 : List TV) (H1 : Hp) (e' : Exit) (a' : Act) (w' : World) : Prop :=
  e' = e.exit' ∧ ∃ (μ' : Mu) (lam' : Nat → Nat), Ext H.length μ μ' ∧ H.length ≤ H1.length ∧ Rel X S A w0 μ' lam' t1 H1 a' w'

theorem Ends.trans {H1 H2 : Hp} {μ1 : Mu} {e : Ex} {t2 : List TV} {e' : Exit} {a' : Act} {w' : World} (he : Ext H.length μ μ1) (hN : H.length ≤ H1.length) (h : Ends X S A w0 μ1 H1 e t2 H2 e' a' w') : Ends X S A w0 μ H e t2 H2 e' a' w' := by
  obtain ⟨h1, μ2, lam2, h2, h3, h4⟩ := h
  exact ⟨h1, μ2, lam2, he.trans h2 hN, Nat.le_trans hN h3, h4⟩

def RunSound (X : Ctx) (ex : Run) : Prop := ∀ (c : Code) (t : List TV) (H : Hp) (e : Ex) (t1 : List TV) (H1 : Hp), ex c t H = some (e, t1, H1) →
  ∀ (S A : Nat → Prop) (w0 : World) (μ : Mu) (lam : Nat → Nat) (a : Act) (w : World), Rel X S A w0 μ lam t H a w → c.wp X.P (Ends X S A w0 μ H e t1 H1) a w

/-- Regions that draw their order. -/
def DrawSound (X : Ctx) : Prop := ∀ (n : Nat) (f : FuncId) (ops : Array Oper), drawOk X f ops = true → ∀ (lim : Nat), CallSound X (callBy X lim (exec X n)) → ∀ (t : List TV) (H : Hp) (t1 : List TV) (H1 : Hp), runI X f lim H.length (callBy X lim (exec X n)) ops (List.range ops.size) (t, H) = some (t1, H1) →
  ∀ (S A : Nat → Prop) (w0 : World) (μ : Mu) (lam : Nat → Nat) (a : Act) (w : World), Rel X S A w0 μ lam t H a w → ∀ id, (Code.region id ops true).wp X.P (Ends X S A w0 μ H .normal t1 H1) a w

theorem loopGo_sound {ex : Run} (hex : RunSound X ex) (ks : List Nat) (c : Code) : ∀ (k : Nat) (t : List TV) (H : Hp) (e : Ex) (t1 : List TV) (H1 : Hp), loopGo ex ks c k t H = some (e, t1, H1) →
    ∀ (S A : Nat → Prop) (w0 : World) (μ : Mu) (lam : Nat → Nat) (a : Act) (w : World), Rel X S A w0 μ lam t H a w → LoopWp X.P c (Ends X S A w0 μ H e t1 H1) a w
  | 0, _, _, _, _, _, h => by cases h
  | k + 1, t, H, e, t1, H1, h => by
    intro S A w0 μ lam a w hr
    unfold loopGo at h
    split at h
    · rename_i t' H' h1
      refine LoopWp.round (wp_mono (hex c _ _ _ _ _ h1 S A w0 μ lam a w (hr.clr ks)) ?_)
      rintro e' a' w' ⟨rfl, μ', lam', e1, e2, e3⟩
      have := loopGo_sound hex ks c k t' H' e t1 H1 h S A w0 μ' lam' a' w' e3
      intro b k' cs
      obtain ⟨e2', a2, w2, hq, harr⟩ := this b k' cs
      exact ⟨e2', a2, w2, hq.trans e1 e2, harr⟩
    · rename_i r hne
      refine LoopWp.round (wp_mono (hex c _ _ _ _ _ h S A w0 μ lam a w (hr.clr ks)) ?_)
      rintro e' a' w' ⟨rfl, hq⟩
      cases e with
      | normal => exact absurd h (hne t1 H1)
      | exit id => exact ⟨rfl, hq⟩
      | goto l => exact ⟨rfl, hq⟩
      | ret => exact ⟨rfl, hq⟩

theorem scopeGo_sound {ex : Run} (hex : RunSound X ex) (c : Code) : ∀ (k : Nat) (cur : Code) (t : List TV) (H : Hp) (e : Ex) (t1 : List TV) (H1 : Hp), scopeGo ex c k cur t H = some (e, t1, H1) →
    ∀ (S A : Nat → Prop) (w0 : World) (μ : Mu) (lam : Nat → Nat) (a : Act) (w : World), Rel X S A w0 μ lam t H a w → ScopeWp X.P c cur (Ends X S A w0 μ H e t1 H1) a w
  | 0, _, _, _, _, _, _, h => by cases h
  | k + 1, cur, t, H, e, t1, H1, h => by
    intro S A w0 μ lam a w hr
    unfold scopeGo at h
    split at h
    · rename_i l t' H' h1
      split at h
      · rename_i rest hf
        refine ScopeWp.pass (wp_mono (hex cur _ _ _ _ _ h1 S A w0 μ lam a w hr) ?_)
        rintro e' a' w' ⟨rfl, μ', lam', e1, e2, e3⟩
        refine ⟨rest, hf, ?_⟩
        have := scopeGo_sound hex c k rest t' H' e t1 H1 h S A w0 μ' lam' a' w' e3
        intro b k' cs
        obtain ⟨e2', a2, w2, hq, harr⟩ := this b k' cs
        exact ⟨e2', a2, w2, hq.trans e1 e2, harr⟩
      · cases h
    · rename_i r hne
      refine ScopeWp.pass (wp_mono (hex cur _ _ _ _ _ h S A w0 μ lam a w hr) ?_)
      rintro e' a' w' ⟨rfl, hq⟩
      cases e with
      | goto l => exact absurd h (hne l t1 H1)
      | normal => exact ⟨rfl, hq⟩
      | exit id => exact ⟨rfl, hq⟩
      | ret => exact ⟨rfl, hq⟩

/-- The interpreter's step downwards. -/
theorem exec_succ (hd : DrawSound X) {n : Nat} {f : FuncId} {lim : Nat} (hex : RunSound X (exec X n f lim)) (hcs : CallSound X (callBy X lim (exec X n))) : RunSound X (exec X (n + 1) f lim) := by
  intro c t H e t1 H1 h S A w0 μ lam a w hr
  unfold exec at h
  split at h
  · simp only [Option.some.injEq, Prod.mk.injEq] at h
    obtain ⟨rfl, rfl, rfl⟩ := h
    exact wp_skip ⟨rfl, μ, lam, Ext.refl _ _, Nat.le_refl _, hr⟩
  · simp only [Option.some.injEq, Prod.mk.injEq] at h
    obtain ⟨rfl, rfl, rfl⟩ := h
    exact wp_label ⟨rfl, μ, lam, Ext.refl _ _, Nat.le_refl _, hr⟩
  · rename_i id ops draw
    cases draw with
    | false =>
      simp only [Bool.false_eq_true, if_false] at h
      split at h
      · rename_i t' H' h1
        simp only [Option.some.injEq, Prod.mk.injEq] at h
        obtain ⟨rfl, rfl, rfl⟩ := h
        exact wp_region_list (runOps_sound hcs _ hr h1 fun μ1 lam1 a1 w1 e1 e2 e3 => ⟨rfl, μ1, lam1, e1, e2, e3⟩)
      · cases h
    | true =>
      simp only [if_true] at h
      split at h
      · rename_i hdr
        split at h
        · rename_i t' H' h1
          simp only [Option.some.injEq, Prod.mk.injEq] at h
          obtain ⟨rfl, rfl, rfl⟩ := h
          exact hd n f ops hdr lim hcs t H _ _ h1 S A w0 μ lam a w hr id
        · cases h
      · cases h
  · -- seq
    rename_i x y
    split at h
    · rename_i t' H' h1
      refine wp_seq (wp_mono (hex x _ _ _ _ _ h1 S A w0 μ lam a w hr) ?_)
      rintro e' a' w' ⟨rfl, μ', lam', e1, e2, e3⟩
      exact wp_mono (hex y _ _ _ _ _ h S A w0 μ' lam' a' w' e3) fun e2' a2 w2 hq => hq.trans e1 e2
    · rename_i r hne
      refine wp_seq (wp_mono (hex x _ _ _ _ _ h S A w0 μ lam a w hr) ?_)
      rintro e' a' w' ⟨rfl, hq⟩
      cases e with
      | normal => exact absurd h (hne t1 H1)
      | exit id => exact ⟨rfl, hq⟩
      | goto l => exact ⟨rfl, hq⟩
      | ret => exact ⟨rfl, hq⟩
  · -- cond
    rename_i z x y
    split at h
    · rename_i hz
      have hz' : a.eval z = .bool true := by have := hr.ev z; rw [hz] at this; exact this
      exact wp_cond_true hz' (hex x _ _ _ _ _ h S A w0 μ lam a w hr)
    · rename_i hz
      have hz' : a.eval z = .bool false := by have := hr.ev z; rw [hz] at this; exact this
      exact wp_cond_false hz' (hex y _ _ _ _ _ h S A w0 μ lam a w hr)
    · cases h
  · -- block
    rename_i id x
    split at h
    · rename_i id' t' H' h1
      refine wp_block (wp_mono (hex x _ _ _ _ _ h1 S A w0 μ lam a w hr) ?_)
      rintro e' a' w' ⟨rfl, hq⟩
      split at h
      · rename_i hid
        simp only [Option.some.injEq, Prod.mk.injEq] at h
        obtain ⟨rfl, rfl, rfl⟩ := h
        simp only [Ex.exit', Exit.inBlock, hid, if_true]
        exact ⟨rfl, hq⟩
      · rename_i hid
        simp only [Option.some.injEq, Prod.mk.injEq] at h
        obtain ⟨rfl, rfl, rfl⟩ := h
        simp only [Ex.exit', Exit.inBlock, hid, if_false]
        exact ⟨rfl, hq⟩
    · rename_i r hne
      refine wp_block (wp_mono (hex x _ _ _ _ _ h S A w0 μ lam a w hr) ?_)
      rintro e' a' w' ⟨rfl, hq⟩
      cases e with
      | exit id => exact absurd h (hne id t1 H1)
      | normal => exact ⟨rfl, hq⟩
      | goto l => exact ⟨rfl, hq⟩
      | ret => exact ⟨rfl, hq⟩
  · exact (loopGo_sound hex _ _ _ _ _ _ _ _ h S A w0 μ lam a w hr).wp
  · exact (scopeGo_sound hex _ _ _ _ _ _ _ _ h S A w0 μ lam a w hr).wp
  · simp only [Option.some.injEq, Prod.mk.injEq] at h
    obtain ⟨rfl, rfl, rfl⟩ := h
    exact wp_exit ⟨rfl, μ, lam, Ext.refl _ _, Nat.le_refl _, hr⟩
  · simp only [Option.some.injEq, Prod.mk.injEq] at h
    obtain ⟨rfl, rfl, rfl⟩ := h
    exact wp_goto ⟨rfl, μ, lam, Ext.refl _ _, Nat.le_refl _, hr⟩
  · simp only [Option.some.injEq, Prod.mk.injEq] at h
    obtain ⟨rfl, rfl, rfl⟩ := h
    exact wp_ret ⟨rfl, μ, lam, Ext.refl _ _, Nat.le_refl _, hr⟩
  · cases h
end
end Go.Proofs.Ytmgofjgfmcmceaa
end
section
namespace Go.Proofs.Ytmgofjgfmcmceaa
open Go.RowKit

section
variable {X : Ctx} {S A : Nat → Prop} {w0 : World} {μ : Mu} {lam : Nat → Nat} {t : List TV} {H : Hp} {a : Act} {w : World}

/-- A result, read. -/
def resM (tmps : Array Value) : ResultVar → Sem Value
  | .tmp t => pure (tmps.getD t undef)
  | .cell x ty => do loadVar ty (← asAddr (tmps.getD x undef))
theorem results_eq (fn : Func) (tmps : Array Value) : results fn tmps = (do let vs ← fn.results.mapM (resM tmps); pure (if h : vs.size = 1 then vs[0] else .tuple vs)) := by
  unfold results
  refine congrArg (fun f => (fn.results.mapM f : Sem (Array Value)) >>= _) ?_
  funext x
  cases x <;> rfl

theorem resOf_ok (h : Rel X S A w0 μ lam t H a w) {rv : ResultVar} {v : Value} (hr : resOf X.P t rv = some v) :
    ∃ v', (resM a.tmps rv).run X.P w = .ok v' w ∧ VT μ H.length v v' := by
  cases rv with
  | tmp i =>
    simp only [resOf] at hr
    rcases h.getD i with e | ⟨x, u, e, _, hv, hs⟩
    · rw [e] at hr; cases hr
    · rw [e] at hr
      cases x with
      | val y =>
        simp only [Option.some.injEq] at hr
        subst hr
        exact ⟨u, by simp [resM, Array.getD_eq_getD_getElem?, hv], hs⟩
      | _ => cases hr
  | cell i ty =>
    simp only [resOf] at hr
    rcases h.getD i with e | ⟨x, u, e, _, hv, hs⟩
    · rw [e] at hr; cases hr
    · rw [e] at hr
      cases x with
      | box cs =>
        simp only at hr
        obtain ⟨rfl, C, T, h3, h4⟩ := hs
        obtain ⟨v', q1, q2⟩ := ldv_ok (P := X.P) h3 h4.vp hr
        exact ⟨v', by simp [resM, Array.getD_eq_getD_getElem?, hv, asAddr, q1], q2⟩
      | _ => cases hr

theorem results_list (h : Rel X S A w0 μ lam t H a w) : ∀ {l : List ResultVar} {vs : List Value}, l.mapM (resOf X.P t) = some vs →
    ∃ vs' : List Value, (l.mapM (resM a.tmps)).run X.P w = .ok vs' w ∧ vs'.length = vs.length ∧ ∀ (i : Nat) (x : Value), vs[i]? = some x → ∃ x', vs'[i]? = some x' ∧ VT μ H.length x x'
  | [], vs, hm => by simp at hm; subst hm; exact ⟨[], rfl, rfl, fun i x hi => by simp at hi⟩
  | rv :: l, vs, hm => by
    rw [List.mapM_cons] at hm
    cases he : resOf X.P t rv with
    | none => simp [he] at hm
    | some v =>
      cases hr : l.mapM (resOf X.P t) with
      | none => simp [he, hr] at hm
      | some r =>
        simp [he, hr] at hm
        subst hm
        obtain ⟨v', e1, e2⟩ := resOf_ok h he
        obtain ⟨vs', f1, f2, f3⟩ := results_list h hr
        refine ⟨v' :: vs', ?_, by simp [f2], fun i x hi => ?_⟩
        · rw [List.mapM_cons, Sem.run_bind, e1, Result.andThen_ok, Sem.run_bind, f1, Result.andThen_ok]; rfl
        · cases i with
          | zero => simp at hi; subst hi; exact ⟨v', rfl, e2⟩
          | succ i => simpa using f3 i x (by simpa using hi)

theorem noTuple {μ : Mu} {N : Nat} {x v : Value} (h : VT μ N x v) (hx : ∀ vs, x ≠ .tuple vs) : VA μ N x v := by
  rcases h.cases with ⟨vs, _, rfl, _⟩ | h
  · exact absurd rfl (hx vs)
  · exact h

theorem resultsA_ok (h : Rel X S A w0 μ lam t H a w) {fn : Func} {v : Value} (hr : resultsA X.P fn t = some v) : ∃ v', (results fn a.tmps).run X.P w = .ok v' w ∧ VT μ H.length v v' := by
  unfold resultsA at hr
  have key : ∀ (vs' : List Value), (fn.results.toList.mapM (resM a.tmps)).run X.P w = .ok vs' w →
      (results fn a.tmps).run X.P w = .ok (if h : vs'.toArray.size = 1 then vs'.toArray[0] else .tuple vs'.toArray) w := by
    intro vs' hv
    rw [results_eq, Sem.run_bind, Array.mapM_eq_mapM_toList, Sem.run_map, hv]
    simp only [Result.andThen_ok]
    rfl
  split at hr
  · rename_i u hu
    simp only [Option.some.injEq] at hr
    subst hr
    obtain ⟨vs', f1, f2, f3⟩ := results_list h hu
    obtain ⟨v', e1, e2⟩ := f3 0 u rfl
    have : vs' = [v'] := by
      cases vs' with
      | nil => simp at f2
      | cons y r =>
        have : r = [] := List.eq_nil_of_length_eq_zero (by simpa using f2)
        subst this
        simp at e1; subst e1; rfl
    subst this
    exact ⟨v', by rw [key _ f1]; simp, e2⟩
  · rename_i vs hne hvs
    split at hr
    · rename_i hnt
      simp only [Option.some.injEq] at hr
      subst hr
      obtain ⟨vs', f1, f2, f3⟩ := results_list h hvs
      have hlen : vs'.length ≠ 1 := by
        rw [f2]
        intro e1
        cases vs with
        | nil => simp at e1
        | cons y r =>
          have : r = [] := List.eq_nil_of_length_eq_zero (by simpa using e1)
          subst this
          exact hne y rfl
      refine ⟨.tuple vs'.toArray, by rw [key _ f1]; simp [hlen], vs'.toArray, rfl, by simp [f2], fun i x hi => ?_⟩
      obtain ⟨x', e1, e2⟩ := f3 i x (by simpa using hi)
      refine ⟨x', by simpa using e1, noTuple e2 fun us hus => ?_⟩
      have := List.all_eq_true.1 hnt x (List.mem_of_getElem? (by simpa using hi))
      rw [hus] at this
      cases this
    · cases hr
  · cases hr

theorem callBy_sound {n : Nat} {lim : Nat} (hex : ∀ g lim', RunSound X (exec X n g lim')) : CallSound X (callBy X lim (exec X n)) := by
  intro g vs H r H1 hc μ w vs' hargs hm
  unfold callBy at hc
  split at hc
  · cases hc
  rename_i fn hfn
  split at hc
  · cases hc
  rename_i hname
  split at hc
  · -- no text of its own
    rename_i hbody
    split at hc
    · rename_i hsc
      obtain ⟨v, h1, h2⟩ := Option.map_eq_some_iff.1 hc
      simp only [Prod.mk.injEq] at h2
      obtain ⟨rfl, rfl⟩ := h2
      have hvs : vs' = vs.toArray := by
        apply Array.ext'
        apply List.ext_getElem?
        intro i
        rcases Nat.lt_or_ge i vs.length with hi | hi
        · obtain ⟨x', e1, e2⟩ := hargs.2 i _ (List.getElem?_eq_getElem hi)
          have hx := VC.scal (List.all_eq_true.1 hsc _ (List.getElem_mem hi)) e2
          rw [Array.getElem?_toList, e1, hx, List.getElem?_eq_getElem hi]
        · rw [List.getElem?_eq_none (by simpa [hargs.1] using hi), List.getElem?_eq_none (by simpa using hi)]
      subst hvs
      obtain ⟨e1, e2⟩ := pureNext_ok h1 w
      exact .inl ⟨v, w, e1, μ, Ext.refl _ _, Nat.le_refl _, VT.of_cell (VC.of_scal e2), hm⟩
    · cases hc
  · -- its text
    rename_i c hbody
    refine .inr ⟨?_, ?_⟩
    · simp only [callFunc, Sem.run_bind, run_program, Result.andThen_ok, hfn]
      have hn : (fn.name == "runtime.NumGoroutine") = false := by simpa using hname
      simp [hn, hbody]
    · refine calls_of_wp hfn hbody ?_
      have hsize : fn.ntmps - vs'.size = fn.ntmps - vs.length := by rw [hargs.1]
      have hrel : Rel X (wrS μ H) (liveS μ H) w μ (fun _ => 0) (vs.map TV.val ++ List.replicate (fn.ntmps - vs.length) (.val undef)) H { tmps := vs' ++ Array.replicate (fn.ntmps - vs'.size) undef, defers := [] } w := by
        have nobox : ∀ (i : Nat) (cs : List Value), (vs.map TV.val ++ List.replicate (fn.ntmps - vs.length) (.val undef))[i]? ≠ some (.box cs) := by
          intro i cs hi
          rw [List.getElem?_append] at hi
          split at hi
          · simp at hi
          · rw [List.getElem?_replicate] at hi
            split at hi <;> simp at hi
        refine { os := hm.os, tape := hm.tape, output := hm.output, size := hm.size, kept := hm.kept, wrote := hm.wrote, live := hm.live, heap := hm.heap, inj := hm.inj, glob := hm.glob, len := ?_, slot := ?_, boxNew := ?_, boxObj := ?_, boxBox := ?_, plain := rfl }
        · simp [hargs.1]
        · intro i x hx
          rw [List.getElem?_append] at hx
          simp only [List.length_map] at hx
          rw [Array.getElem?_append, hargs.1]
          split at hx
          · rename_i hlt
            rw [if_pos hlt]
            rw [List.getElem?_map] at hx
            obtain ⟨u, hu, rfl⟩ := Option.map_eq_some_iff.1 hx
            obtain ⟨u', e1, e2⟩ := hargs.2 i u hu
            exact ⟨u', e1, e2⟩
          · rename_i hlt
            rw [if_neg hlt]
            rw [List.getElem?_replicate] at hx
            split at hx
            · rename_i hr
              simp only [Option.some.injEq] at hx
              subst hx
              refine ⟨undef, by simp [hr], undef_rel _ _ (fun _ => 0)⟩
            · cases hx
        · exact fun i cs hi => absurd hi (nobox i cs)
        · exact fun i cs b o hi _ => absurd hi (nobox i cs)
        · exact fun i j cs cs' hi _ _ => absurd hi (nobox i cs)
      have fin : ∀ (e : Ex) (t1 : List TV) (H2 : Hp), (e = .ret ∨ e = .normal) → exec X n g (if X.pur g then H.length else lim) c (vs.map TV.val ++ List.replicate (fn.ntmps - vs.length) (.val undef)) H = some (e, t1, H2) →
          ((resultsA X.P fn t1).map fun v => (v, H2)) = some (r, H1) → c.wp X.P (bodyPost X.P fn fun e w1 => ∃ r', e = .returned r' ∧ Back X μ H w r H1 r' w1) { tmps := vs' ++ Array.replicate (fn.ntmps - vs'.size) undef, defers := [] } w := by
        intro e t1 H2 he hx hres
        obtain ⟨v, h1, h2⟩ := Option.map_eq_some_iff.1 hres
        simp only [Prod.mk.injEq] at h2
        obtain ⟨rfl, rfl⟩ := h2
        refine wp_mono (hex g _ c _ _ _ _ _ hx _ _ _ _ _ _ _ hrel) ?_
        rintro e' a' w' ⟨rfl, μ', lam', q1, q2, q3⟩
        obtain ⟨v', s1, s2⟩ := resultsA_ok q3 h1
        have hb : Back X μ H w v H2 v' w' := ⟨μ', q1, q2, s2, q3.mem⟩
        rcases he with rfl | rfl
        · exact ⟨q3.plain, v', s1, v', rfl, hb⟩
        · exact ⟨q3.plain, v', s1, v', rfl, hb⟩
      split at hc
      · rename_i t1 H2 hx
        exact fin .ret t1 H2 (.inl rfl) hx hc
      · rename_i t1 H2 hx
        exact fin .normal t1 H2 (.inr rfl) hx hc
      · cases hc

theorem exec_sound (hd : DrawSound X) : ∀ (n : Nat) (f : FuncId) (lim : Nat), RunSound X (exec X n f lim)
  | 0, f, lim => by
    intro c t H e t1 H1 h
    simp [exec] at h
  | n + 1, f, lim => exec_succ hd (exec_sound hd n f lim) (callBy_sound fun g lim' => exec_sound hd n g lim')

theorem execCall_sound (hd : DrawSound X) (n lim : Nat) : CallSound X (execCall X n lim) := callBy_sound fun g lim' => exec_sound hd n g lim'
end
end Go.Proofs.Ytmgofjgfmcmceaa
end
