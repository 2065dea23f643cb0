/- An interpreter of the program's text over plain data: a frame's own variables lie in its slots, all other memory in a list of objects. No capacity, no order, no address of the machine's is seen. What it answers the machine does: T2 and behind. Definitions alone. How the interpreter's data stand to the machine's: the relation, and what keeps it. What the interpreter does to memory, the machine does: new blocks, stores, slots. Objects: a new one, one that is written, one that dies, one that goes on in its block. Single operations: what the interpreter yields the machine yields. First part: slots, variables, loads, stores, addresses. Single operations, second part: loads, stores, addresses, parts. -/
import Derived.WalkKit
import Derived.KernelRfl
import Derived.Deep.Draws
import Derived.Orders
import Derived.ScopeJumps
section
namespace Go.Proofs.Ytmgofjgfmcmceaa
open Go.RowKit

/-- What a slot holds: nothing that is known; a value; a variable of the frame's own (its cells); an address within the one in slot d. -/
inductive TV where
  | undef
  | val (v : Value)
  | box (cells : List Value)
  | lptr (d o : Nat)
  deriving Inhabited

/-- An object: may it be written? how many cells has an element (a slice's)? its cells. -/
structure AObj where
  wr : Bool
  es : Nat
  cells : List Value
  deriving Inhabited

/-- Memory: a dead object is none. -/
abbrev Hp := List (Option AObj)

structure Ctx where
  P : Program
  /-- slots of a function whose variables stay with the frame -/
  loc : FuncId → List Nat
  /-- slots that a loop hands on, by its first region -/
  keep : FuncId → Nat → List Nat
  /-- functions that write no object that was there -/
  pur : FuncId → Bool
  /-- where a package's variable lies -/
  glob : Nat → Option Nat

def isScal : Value → Bool
  | .bool _ | .int _ _ | .float _ _ | .complex _ _ _ | .string _ => true
  | _ => false

/-- A cell's value that bears no address but nil. -/
def noRef : Value → Bool
  | .bool _ | .int _ _ | .float _ _ | .complex _ _ _ | .string _ | .pointer none | .nilFunc | .nilIface => true
  | .slice none n c => n == 0 && c == 0
  | _ => false

/-- May it lie in a cell? -/
def isCell : Value → Bool
  | .bool _ | .int _ _ | .float _ _ | .complex _ _ _ | .string _ | .pointer _ | .slice _ _ _ | .nilFunc | .nilIface => true
  | .func _ _ _ => true
  | _ => false

/-- A run that asks nothing of the world. -/
def pureRun {α : Type} (P : Program) : Sem α → Option α
  | .pure a => some a
  | .program k => pureRun P (k P)
  | .mark _ k => pureRun P k
  | _ => none

/-- The value behind a step that asks nothing of the world. -/
def pureNext (P : Program) (s : Sem Next) : Option Value :=
  match pureRun P s with
  | some (.value v) => if isScal v then some v else none
  | _ => none

def ev (X : Ctx) (t : List TV) : Operand → TV
  | .tmp i => match t.getD i .undef with
    | .box _ => .lptr i 0
    | x => x
  | .const v => if noRef v then .val v else .undef
  | .global g => match X.glob g with
    | some b => .val (.pointer (some ⟨b, 0, none⟩))
    | none => .undef
  | .func f => .val (.func (.func f) #[] #[])

def evv (X : Ctx) (t : List TV) (x : Operand) : Option Value :=
  match ev X t x with
  | .val v => some v
  | _ => none

/-- A scalar. -/
def evs (X : Ctx) (t : List TV) (x : Operand) : Option Value :=
  match ev X t x with
  | .val v => if isScal v then some v else none
  | _ => none

/-- Operands as values; what is none stands as nil. -/
def rho (X : Ctx) (t : List TV) (x : Operand) : Value := (evv X t x).getD .nilIface

def sizeP (P : Program) (t : TypeId) : Option Nat := (P.info? t).map (·.size)
def bytesP (P : Program) (t : TypeId) : Option Nat := (P.info? t).map (·.bytes)
def zeroP (P : Program) (t : TypeId) : Option Value := (P.info? t).bind (·.zero)
def aggP (P : Program) (t : TypeId) : Option Bool :=
  match P.underlying t with
  | some (.struct _) | some (.array _ _) => some true
  | some _ => some false
  | none => none
def elemP (P : Program) (t : TypeId) : Option TypeId :=
  match P.underlying t with
  | some (.slice e) => some e
  | _ => none
/-- Where a field begins. -/
def fieldP (P : Program) (s : TypeId) (f : Nat) : Option (Nat × TypeId) :=
  match P.underlying s with
  | some (.struct fields) => match fields[f]? with
    | some fl => match sizeP P fl.type with
      | some (_ + 1) => some (fl.offset, fl.type)
      | _ => none
    | none => none
  | _ => none

/-- A value of a type out of cells. -/
def ldv (P : Program) (ty : TypeId) (cs : List Value) (off : Nat) : Option Value :=
  match aggP P ty with
  | some true => match sizeP P ty with
    | some n => if off + n ≤ cs.length then some (.agg ((cs.drop off).take n).toArray) else none
    | none => none
  | some false => cs[off]?
  | none => none

def setCells : List Value → Nat → List Value → List Value
  | cs, _, [] => cs
  | cs, i, v :: vs => setCells (cs.set i v) (i + 1) vs

/-- Cells with a value laid at a place. -/
def stv (P : Program) (ty : TypeId) (cs : List Value) (off : Nat) (v : Value) : Option (List Value) :=
  match sizeP P ty with
  | some n => if v.cells.size = n ∧ v.cells.toList.all isCell = true ∧ off + n ≤ cs.length then some (setCells cs off v.cells.toList) else none
  | none => none

def getO (H : Hp) (b : Nat) : Option AObj := (H[b]?).join

/-- A new variable: with the frame, or an object. -/
def newVar (X : Ctx) (f : FuncId) (t : List TV) (H : Hp) (dst : Option Tmp) (cs : List Value) : Option (TV × List TV × Hp) :=
  if cs.all isCell then
    match dst with
    | some d =>
      if (X.loc f).contains d then
        if t.all (fun x => match x with | .lptr d' _ => d' != d | _ => true) then some (.box cs, t, H) else none
      else some (.val (.pointer (some ⟨H.length, 0, none⟩)), t, H ++ [some ⟨true, 0, cs⟩])
    | none => none
  else none

/-- The cells of n elements of zero. -/
def zeros (z : List Value) (n : Nat) : List Value := (List.range n).map fun i => z.getD (i % z.length) default

/-- A new object that a slice leads to. -/
def newSlice (H : Hp) (es n : Nat) (cs : List Value) : Option (Value × Hp) :=
  if cs.all isCell then some (.slice (some ⟨H.length, 0, none⟩) n n, H ++ [some ⟨true, es, cs⟩]) else none

def intOf? : Value → Option Int
  | .int _ n => some n
  | _ => none

def byteOf? : Value → Option Int
  | .int .u8 n => some n
  | _ => none

/-- What a slice's (or a string's) elements are, as cells. -/
def srcCells (H : Hp) (es : Nat) : Value → Option (Nat × List Value)
  | .slice none n _ => if n = 0 then some (0, []) else none
  | .slice (some ⟨b, off, none⟩) n _ => match getO H b with
    | some o => if o.es = es ∧ off + n * es ≤ o.cells.length then some (n, (o.cells.drop off).take (n * es)) else none
    | none => none
  | .string s => if es = 1 then some (s.size, s.data.toList.map fun b => .int .u8 b.toNat) else none
  | _ => none

def roomOk (P : Program) (e : TypeId) (n : Nat) : Bool :=
  match bytesP P e, zeroP P e, sizeP P e with
  | some k, some z, some es => decide (n ≤ 140737488355328 ∧ (n + 1000) * k * 4 ≤ 281474976710656 ∧ z.cells.size = es)
  | _, _, _ => false

def appendV (P : Program) (lim : Nat) (H : Hp) (t : TypeId) (s x : Value) : Option (Value × Hp) :=
  match elemP P t with
  | none => none
  | some e => match sizeP P e with
    | none => none
    | some es => match srcCells H es x with
      | none => none
      | some (m, new) =>
        match s with
        | .slice none n _ =>
          if n = 0 then
            if m = 0 then some (.slice none 0 0, H)
            else if roomOk P e m then newSlice H es m new else none
          else none
        | .slice (some ⟨b, 0, none⟩) n _ => match getO H b with
          | some o =>
            if o.wr = true ∧ lim ≤ b ∧ o.es = es ∧ n * es ≤ o.cells.length then
              if m = 0 then some (.slice (some ⟨b, 0, none⟩) n n, H)
              else if roomOk P e (n + m) then newSlice (H.set b none) es (n + m) (o.cells.take (n * es) ++ new) else none
            else none
          | none => none
        | _ => none

def copyV (P : Program) (lim : Nat) (H : Hp) (t : TypeId) (d s : Value) : Option (Value × Hp) :=
  match elemP P t with
  | none => none
  | some e => match sizeP P e with
    | none => none
    | some es => match d with
      | .slice (some ⟨b, off, none⟩) n _ => match getO H b, s with
        | some o, .slice (some ⟨b2, off2, none⟩) n2 _ => match getO H b2 with
          | some o2 =>
            let k := Nat.min n2 n
            if o.wr = true ∧ lim ≤ b ∧ o.es = es ∧ o2.es = es ∧ off + n * es ≤ o.cells.length ∧ off2 + n2 * es ≤ o2.cells.length ∧ ((o2.cells.drop off2).take (k * es)).all isCell = true then
              some (.int .i64 k, H.set b (some { o with cells := setCells o.cells off ((o2.cells.drop off2).take (k * es)) }))
            else none
          | none => none
        | some _, .slice none n2 _ => if n2 = 0 then some (.int .i64 0, H) else none
        | _, _ => none
      | .slice none n _ => match s with
        | .slice _ _ _ => if n = 0 then some (.int .i64 0, H) else none
        | _ => none
      | _ => none

/-- An address as the frame has it. -/
inductive Pl where
  | loc (d o : Nat)
  | obj (b o : Nat)
def placeOf : TV → Option Pl
  | .lptr d o => some (.loc d o)
  | .val (.pointer (some ⟨b, o, none⟩)) => some (.obj b o)
  | _ => none
def Pl.tv : Pl → TV
  | .loc d o => .lptr d o
  | .obj b o => .val (.pointer (some ⟨b, o, none⟩))
def Pl.add : Pl → Nat → Pl
  | .loc d o, n => .loc d (o + n)
  | .obj b o, n => .obj b (o + n)

/-- A cell at a place of a list, under bounds. -/
def inB (i : Int) (n : Nat) : Bool := decide (0 ≤ i ∧ i < (n : Int))

abbrev CallF := FuncId → List Value → Hp → Option (Value × Hp)

def ofV (t : List TV) : Option (Value × Hp) → Option (TV × List TV × Hp)
  | some (v, H) => some (.val v, t, H)
  | none => none

/-- One operation. -/
def stepOp (X : Ctx) (f : FuncId) (lim : Nat) (call : CallF) (t : List TV) (H : Hp) (o : Oper) : Option (TV × List TV × Hp) :=
  match o.op with
  | .move x | .assign x => some (ev X t x, t, H)
  | .pick c a b => match ev X t c with
    | .val (.bool c) => some (bif c then ev X t a else ev X t b, t, H)
    | _ => none
  | .alloc e => match zeroP X.P e with
    | some z => if z.cells.toList.all noRef then newVar X f t H o.dst z.cells.toList else none
    | none => none
  | .box _ x => match evv X t x with
    | some v => newVar X f t H o.dst v.cells.toList
    | none => none
  | .build ty parts =>
    match parts.toList.mapM (fun p => (evv X t p.2).map fun v => (p.1, v)) with
    | some ps => match zeroP X.P ty with
      | some z => if z.cells.toList.all noRef && ps.all (fun p => p.2.cells.toList.all isCell) then match pureRun X.P (Instr.build ty ps.toArray) with
          | some v => some (.val v, t, H)
          | none => none
        else none
      | none => none
    | none => none
  | .buildSlice ty len parts =>
    match parts.toList.mapM (fun p => (evv X t p.2).map fun v => (p.1, v)), elemP X.P ty with
    | some ps, some e => match sizeP X.P e with
      | some es =>
        if len * es ≤ 2 ^ 24 then
          match (if len * es = 0 then some #[] else (zeroP X.P e).map (·.cells)) with
          | some z => if z.toList.all noRef && ps.all (fun p => p.2.cells.toList.all isCell) then match Instr.fill (fun i => some (i * es, es)) ((Array.range (len * es)).map (z[· % z.size]!)) ps with
              | some cs => ofV t (newSlice H es len cs.toList)
              | none => none
            else none
          | none => none
        else none
      | none => none
    | _, _ => none
  | .load ty a => match placeOf (ev X t a) with
    | some (.loc d off) => match t.getD d .undef with
      | .box cs => (ldv X.P ty cs off).map fun v => (.val v, t, H)
      | _ => none
    | some (.obj b off) => match getO H b with
      | some ob => (ldv X.P ty ob.cells off).map fun v => (.val v, t, H)
      | none => none
    | none => none
  | .store ty a x => match placeOf (ev X t a), evv X t x with
    | some (.loc d off), some v => match t.getD d .undef with
      | .box cs => (stv X.P ty cs off v).map fun cs' => (.val undef, t.set d (.box cs'), H)
      | _ => none
    | some (.obj b off), some v => match getO H b with
      | some ob => if ob.wr = true ∧ lim ≤ b then (stv X.P ty ob.cells off v).map fun cs' => (.val undef, t, H.set b (some { ob with cells := cs' })) else none
      | none => none
    | _, _ => none
  | .nilCheck x => match placeOf (ev X t x) with
    | some p => some (p.tv, t, H)
    | none => none
  | .binOp op ty x y _ => match evv X t x, evv X t y with
    | some (.pointer p), some (.pointer none) => match op, X.P.underlying ty with
      | .eql, some (.pointer _) => some (.val (.bool p.isNone), t, H)
      | .neq, some (.pointer _) => some (.val (.bool p.isSome), t, H)
      | _, _ => none
    | some v, some u => if isScal v && isScal u then (pureNext X.P (execOp (rho X t) o)).map fun r => (.val r, t, H)
      else match v, u with
        | .agg cs, .agg cs' => if cs.toList.all isScal && cs'.toList.all isScal then (pureNext X.P (execOp (rho X t) o)).map fun r => (.val r, t, H) else none
        | _, _ => none
    | _, _ => none
  | .unOp _ _ x => match evs X t x with
    | some _ => (pureNext X.P (execOp (rho X t) o)).map fun r => (.val r, t, H)
    | none => none
  | .convert src dst x => match evv X t x with
    | some (.slice a n c) => match X.P.underlying src, X.P.underlying dst with
      | some (.slice e), some .string => match X.P.underlying e, sizeP X.P e with
        | some (.int .u8), some 1 => match srcCells H 1 (.slice a n c) with
          | some (_, cs) => match cs.mapM byteOf? with
            | some ns => some (.val (.string ⟨(ns.map fun n => UInt8.ofNat n.toNat).toArray⟩), t, H)
            | none => none
          | none => none
        | _, _ => none
      | _, _ => none
    | some (.string s) => match X.P.underlying src, X.P.underlying dst with
      | some .string, some (.slice e) => match X.P.underlying e, sizeP X.P e with
        | some (.int .u8), some 1 => ofV t (newSlice H 1 s.size (s.data.toList.map fun b => .int .u8 b.toNat))
        | _, _ => none
      | some .string, some .string => some (.val (.string s), t, H)
      | _, _ => none
    | some v => if isScal v then (pureNext X.P (execOp (rho X t) o)).map fun r => (.val r, t, H) else none
    | none => none
  | .makeFunc fn first captured =>
    match captured.toList.mapM (evv X t), first.isEmpty with
    | some vs, true => if vs.all (fun v => match v with | .pointer (some ⟨_, _, none⟩) => true | _ => false) then some (.val (.func fn #[] vs.toArray), t, H) else none
    | _, _ => none
  | .makeSlice ty l c => match evv X t l, evv X t c, elemP X.P ty with
    | some (.int .i64 l), some (.int .i64 c), some e => match sizeP X.P e, zeroP X.P e with
      | some es, some z => if 0 ≤ l ∧ l = c ∧ roomOk X.P e l.toNat = true ∧ z.cells.toList.all noRef = true then ofV t (newSlice H es l.toNat (zeros z.cells.toList (l.toNat * es))) else none
      | _, _ => none
    | _, _, _ => none
  | .slice ty x lo hi mx => match evv X t x, mx with
    | some (.string _), none =>
      if (lo.all fun z => (evs X t z).isSome) && (hi.all fun z => (evs X t z).isSome) then
        (pureNext X.P (execOp (rho X t) o)).map fun r => (.val r, t, H)
      else none
    | some (.slice a n _), none =>
      match elemP X.P ty, (match lo with | none => some 0 | some z => (evv X t z).bind intOf?), (match hi with | none => some (n : Int) | some z => (evv X t z).bind intOf?) with
      | some e, some l, some h => match sizeP X.P e with
        | some es =>
          if 0 ≤ l ∧ l ≤ h ∧ h ≤ (n : Int) then
            match a with
            | none => some (.val (.slice none 0 0), t, H)
            | some ⟨b, off, none⟩ => match getO H b with
              | some ob => if ob.es = es then some (.val (.slice (some ⟨b, off + l.toNat * es, none⟩) (h.toNat - l.toNat) (h.toNat - l.toNat)), t, H) else none
              | none => none
            | _ => none
          else none
        | none => none
      | _, _, _ => none
    | _, _ => none
  | .fieldAddr s x fl => match placeOf (ev X t x), fieldP X.P s fl with
    | some p, some (off, _) => some ((p.add off).tv, t, H)
    | _, _ => none
  | .field s x fl => match evv X t x, fieldP X.P s fl with
    | some (.agg cs), some (off, ty) => (ldv X.P ty cs.toList off).map fun v => (.val v, t, H)
    | _, _ => none
  | .indexAddr ty x ix => match X.P.underlying ty, (evv X t ix).bind intOf? with
    | some (.array len e), some i => match placeOf (ev X t x), sizeP X.P e with
      | some p, some es => bif inB i len then some ((p.add (i.toNat * es)).tv, t, H) else none
      | _, _ => none
    | some (.slice e), some i => match evv X t x, sizeP X.P e with
      | some (.slice (some ⟨b, off, none⟩) n _), some es => bif inB i n then some (.val (.pointer (some ⟨b, off + i.toNat * es, none⟩)), t, H) else none
      | _, _ => none
    | _, _ => none
  | .index ty x ix => match evv X t x, (evv X t ix).bind intOf? with
    | some (.string _), some _ => (pureNext X.P (execOp (rho X t) o)).map fun r => (.val r, t, H)
    | some (.agg cs), some i => match X.P.underlying ty with
      | some (.array len e) => match sizeP X.P e with
        | some es => bif inB i len then (ldv X.P e cs.toList (i.toNat * es)).map fun v => (.val v, t, H) else none
        | none => none
      | _ => none
    | _, _ => none
  | .extract x i => match evv X t x with
    | some (.tuple vs) => (vs[i]?).map fun v => (.val v, t, H)
    | _ => none
  | .call c => match c.callee with
    | .builtin .len => match c.args[0]?, c.args.size with
      | some x, 1 => match evv X t x, (c.argTypes[0]?).bind X.P.underlying with
        | some (.slice _ n _), some (.slice _) => some (.val (.int .i64 n), t, H)
        | some (.string s), some .string => some (.val (.int .i64 s.size), t, H)
        | _, _ => none
      | _, _ => none
    | .builtin .append => match c.args[0]?, c.args[1]?, c.argTypes[0]?, c.argTypes[1]? with
      | some s, some x, some ty, some ty2 => match evv X t s, evv X t x, X.P.underlying ty2 with
        | some s, some x, some (.slice _) => ofV t (appendV X.P lim H ty s x)
        | some s, some x, some .string => ofV t (appendV X.P lim H ty s x)
        | _, _, _ => none
      | _, _, _, _ => none
    | .builtin .copy => match c.args[0]?, c.args[1]?, c.argTypes[0]? with
      | some d, some s, some ty => match evv X t d, evv X t s with
        | some d, some s => ofV t (copyV X.P lim H ty d s)
        | _, _ => none
      | _, _, _ => none
    | .builtin _ =>
      if c.args.toList.all fun z => (evs X t z).isSome then
        (pureNext X.P (execOp (rho X t) o)).map fun r => (.val r, t, H)
      else none
    | .value g => match evv X t g, c.args.toList.mapM (evv X t) with
      | some (.func (.func g) first captured), some vs => if first.isEmpty then ofV t (call g (vs ++ captured.toList) H) else none
      | _, _ => none
    | .invoke _ _ => none
  | _ => none

def putT (t : List TV) (d : Option Tmp) (x : TV) : List TV :=
  match d with
  | some d => t.set d x
  | none => t

/-- Is the operation carried out? none: that isn't known. -/
def wantA (ops : Array Oper) (t : List TV) (o : Oper) : Option Bool :=
  match o.guard with
  | none => some true
  | some (j, want) => match (ops[j]?).bind (·.dst) with
    | some d => match t.getD d .undef with
      | .val (.bool b) => some (b == want)
      | .val (.tuple vs) => if vs.isEmpty then some false else none
      | _ => none
    | none => none

def runOp (X : Ctx) (f : FuncId) (lim : Nat) (call : CallF) (ops : Array Oper) (t : List TV) (H : Hp) (o : Oper) : Option (List TV × Hp) :=
  match wantA ops t o with
  | some true => match stepOp X f lim call t H o with
    | some (x, t, H) => some (putT t o.dst x, H)
    | none => none
  | some false => some (putT t o.dst (.val undef), H)
  | none => none

def runOps (X : Ctx) (f : FuncId) (lim : Nat) (call : CallF) (ops : Array Oper) : List Oper → List TV → Hp → Option (List TV × Hp)
  | [], t, H => some (t, H)
  | o :: rest, t, H => match runOp X f lim call ops t H o with
    | some (t, H) => runOps X f lim call ops rest t H
    | none => none

inductive Ex where
  | normal
  | exit (id : Nat)
  | goto (l : Nat)
  | ret
  deriving Inhabited

abbrev St := List TV × Hp
abbrev Run := Code → List TV → Hp → Option (Ex × St)

def firstRegion : Code → Nat
  | .region id _ _ => id
  | .seq a _ => firstRegion a
  | .block _ b => firstRegion b
  | .loop b => firstRegion b
  | .scope b => firstRegion b
  | _ => 0

/-- Slots that are not handed on are forgotten. -/
def clr (ks : List Nat) (t : List TV) : List TV := t.zipIdx.map fun p => if ks.contains p.2 then p.1 else .undef

def loopGo (ex : Run) (ks : List Nat) (c : Code) : Nat → List TV → Hp → Option (Ex × St)
  | 0, _, _ => none
  | k + 1, t, H => match ex c (clr ks t) H with
    | some (.normal, t, H) => loopGo ex ks c k t H
    | r => r

def scopeGo (ex : Run) (c : Code) : Nat → Code → List TV → Hp → Option (Ex × St)
  | 0, _, _, _ => none
  | k + 1, cur, t, H => match ex cur t H with
    | some (.goto l, t, H) => match findLabel c l with
      | some rest => scopeGo ex c k rest t H
      | none => none
    | r => r

/-- What a function hands back. -/
def resOf (P : Program) (t : List TV) : ResultVar → Option Value
  | .tmp i => match t.getD i .undef with
    | .val v => some v
    | _ => none
  | .cell a ty => match t.getD a .undef with
    | .box cs => ldv P ty cs 0
    | _ => none

def resultsA (P : Program) (fn : Func) (t : List TV) : Option Value :=
  match fn.results.toList.mapM (resOf P t) with
  | some [v] => some v
  | some vs => if vs.all (fun v => match v with | .tuple _ => false | _ => true) then some (.tuple vs.toArray) else none
  | none => none

def callBy (X : Ctx) (lim : Nat) (ex : FuncId → Nat → Run) : CallF := fun g args H =>
  match X.P.funcs[g]? with
  | none => none
  | some fn => if fn.name == "runtime.NumGoroutine" then none else match fn.body with
    | none => if args.all isScal then (pureNext X.P (callFunc g args.toArray)).map fun v => (v, H) else none
    | some c =>
      match ex g (if X.pur g then H.length else lim) c (args.map TV.val ++ List.replicate (fn.ntmps - args.length) (.val undef)) H with
      | some (.ret, t, H) | some (.normal, t, H) => (resultsA X.P fn t).map fun v => (v, H)
      | _ => none

/-! ### regions whose order is drawn -/
/-- What an operation does: to slots alone; reads a cell; reads an object otherwise; a new variable of the frame's own; new objects alone; a store to a variable of the frame's own; all else. -/
inductive OKind where
  | k0 | k1 | ks | ka | kc | kl | ke
  deriving DecidableEq

def isSliceT (P : Program) (t : TypeId) : Bool :=
  match P.underlying t with
  | some (.slice _) => true
  | _ => false

def kindOf (X : Ctx) (f : FuncId) (o : Oper) : OKind :=
  match o.op with
  | .move _ | .assign _ | .pick _ _ _ | .build _ _ | .nilCheck _ | .binOp _ _ _ _ _ | .unOp _ _ _ | .fieldAddr _ _ _ | .field _ _ _ | .indexAddr _ _ _ | .index _ _ _ | .extract _ _ | .makeFunc _ _ _ => .k0
  | .convert s d _ => if isSliceT X.P s then .ks else if isSliceT X.P d then .kc else .k0
  | .load _ _ => .k1
  | .slice t _ _ _ _ => match X.P.underlying t with
    | some .string => .k0
    | _ => .ks
  | .alloc _ | .box _ _ => match o.dst with
    | some d => if (X.loc f).contains d then .ka else .kc
    | none => .ke
  | .buildSlice _ _ _ | .makeSlice _ _ _ => .kc
  | .store _ (.tmp d) _ => if (X.loc f).contains d then .kl else .ke
  | .call c => match c.callee with
    | .builtin .append | .builtin .copy => .ke
    | .builtin _ => .k0
    | .value (.func g) => if X.pur g then .kc else .ke
    | _ => .ke
  | _ => .ke

/-- May the first be carried out behind the second? -/
def mayPass : OKind → OKind → Bool
  | .k0, _ | _, .k0 => true
  | .k1, .k1 | .k1, .ks | .ks, .k1 | .ks, .ks => true
  | .k1, .kc | .ks, .kc | .kc, .k1 => true
  | .ka, .k1 | .k1, .ka | .ka, .ks | .ks, .ka | .ka, .kc | .kc, .ka => true
  | .k1, .kl | .kl, .k1 => true
  | _, _ => false

/-- Of each operation all that must stand ahead of it. -/
def precs : List Oper → List (List Nat) → List (List Nat)
  | [], acc => acc
  | o :: rest, acc => precs rest (acc ++ [((o.after.toList.filter (Region.binds .any)).flatMap fun e => e.on :: acc.getD e.on [])])

/-- Slots that an operation looks at. -/
def looks (ops : Array Oper) (o : Oper) : List Nat := Oper.looksAt ops o

def apartB (ops : Array Oper) (x y : Oper) : Bool := Oper.apart ops x y

/-- The pairs (i, j), i ahead of j in the text, whose order is open. -/
def openPairs (ops : Array Oper) : List (Nat × Nat) :=
  let ps := precs ops.toList []
  (List.range ops.size).flatMap fun j => ((List.range j).filter fun i => !(ps.getD j []).contains i).map fun i => (i, j)

def drawOk (X : Ctx) (f : FuncId) (ops : Array Oper) : Bool :=
  (ops.toList.all fun o => match o.op with | .store _ _ _ => o.dst.isNone | _ => true) &&
  (ops.toList.zipIdx.all fun p => p.1.after.toList.all fun e => !Region.binds .any e || decide (e.on < p.2)) &&
  (openPairs ops).all fun p => match ops[p.1]?, ops[p.2]? with
    | some x, some y => apartB ops x y && mayPass (kindOf X f x) (kindOf X f y)
    | _, _ => false

/-- Must a load of this region, if it is one of an object, be of one that was there? -/
def guardC (X : Ctx) (f : FuncId) (ops : Array Oper) (j : Nat) : Bool :=
  (openPairs ops).any fun p => p.2 == j && match ops[p.1]? with
    | some x => kindOf X f x == .kc
    | none => false
/-- Must it be one of an object? -/
def guardL (X : Ctx) (f : FuncId) (ops : Array Oper) (j : Nat) : Bool :=
  (openPairs ops).any fun p => (p.2 == j && match ops[p.1]? with
      | some x => kindOf X f x == .kl
      | none => false) || (p.1 == j && match ops[p.2]? with
      | some x => kindOf X f x == .kl
      | none => false)

/-- The new variables that an operation may be carried out ahead of, or behind. -/
def avoids (X : Ctx) (f : FuncId) (ops : Array Oper) (j : Nat) : List Nat :=
  (openPairs ops).filterMap fun p =>
    let k := if p.1 == j then some p.2 else if p.2 == j then some p.1 else none
    match k.bind (ops[·]?) with
    | some x => if kindOf X f x == .ka then x.dst else none
    | none => none

def lptrIn (l : List Nat) : TV → Bool
  | .lptr d _ => l.contains d
  | _ => false

def isBoxT : TV → Bool
  | .box _ => true
  | _ => false

/-- Laying a value into a slot: a variable of the frame's own isn't written over. -/
def putOk (av : List Nat) (t : List TV) (dst : Option Tmp) (x : TV) : Bool :=
  match dst with
  | some d => (isBoxT x || !isBoxT (t.getD d .undef)) && !lptrIn av x && !lptrIn av (t.getD d .undef)
  | none => true

/-- A load of a region with open order; a store to a variable of the frame's own. -/
def placeOk (X : Ctx) (f : FuncId) (ops : Array Oper) (j n0 : Nat) (t : List TV) (o : Oper) : Bool :=
  match o.op with
  | .load _ a => match placeOf (ev X t a) with
    | some (.obj b _) => !guardC X f ops j || decide (b < n0)
    | _ => !guardL X f ops j
  | .store _ (.tmp d) _ => if (X.loc f).contains d then isBoxT (t.getD d .undef) else true
  | _ => true

def stepI (X : Ctx) (f : FuncId) (lim n0 : Nat) (call : CallF) (ops : Array Oper) (i : Nat) (s : List TV × Hp) : Option (List TV × Hp) :=
  match ops[i]? with
  | none => some s
  | some o => match wantA ops s.1 o with
    | some true => if placeOk X f ops i n0 s.1 o then match stepOp X f lim call s.1 s.2 o with
        | some (x, t, H) => if putOk (avoids X f ops i) s.1 o.dst x then some (putT t o.dst x, H) else none
        | none => none
      else none
    | some false => if putOk (avoids X f ops i) s.1 o.dst (.val undef) then some (putT s.1 o.dst (.val undef), s.2) else none
    | none => none

def runI (X : Ctx) (f : FuncId) (lim n0 : Nat) (call : CallF) (ops : Array Oper) : List Nat → List TV × Hp → Option (List TV × Hp)
  | [], s => some s
  | i :: rest, s => match stepI X f lim n0 call ops i s with
    | some s => runI X f lim n0 call ops rest s
    | none => none

/-- The interpreter: n bounds its depth. -/
def exec (X : Ctx) : Nat → FuncId → Nat → Run
  | 0, _, _, _, _, _ => none
  | n + 1, f, lim, code, t, H =>
    match code with
    | .skip | .label _ => some (.normal, t, H)
    | .region _ ops draw =>
      if draw then
        if drawOk X f ops then match runI X f lim H.length (callBy X lim (exec X n)) ops (List.range ops.size) (t, H) with
          | some (t, H) => some (.normal, t, H)
          | none => none
        else none
      else match runOps X f lim (callBy X lim (exec X n)) ops ops.toList t H with
        | some (t, H) => some (.normal, t, H)
        | none => none
    | .seq a b => match exec X n f lim a t H with
      | some (.normal, t, H) => exec X n f lim b t H
      | r => r
    | .cond c a b => match ev X t c with
      | .val (.bool true) => exec X n f lim a t H
      | .val (.bool false) => exec X n f lim b t H
      | _ => none
    | .block id c => match exec X n f lim c t H with
      | some (.exit id', t, H) => if id' = id then some (.normal, t, H) else some (.exit id', t, H)
      | r => r
    | .loop c => loopGo (exec X n f lim) (X.keep f (firstRegion c)) c n t H
    | .scope c => scopeGo (exec X n f lim) c n c t H
    | .exit id => some (.exit id, t, H)
    | .goto l => some (.goto l, t, H)
    | .ret => some (.ret, t, H)
    | _ => none

/-- A call. -/
def execCall (X : Ctx) (n : Nat) (lim : Nat) : CallF := callBy X lim (exec X n)
end Go.Proofs.Ytmgofjgfmcmceaa
end
section
namespace Go.Proofs.Ytmgofjgfmcmceaa
open Go.RowKit

/-- Where an object lies: its block, the block's cells, an element's cells. -/
structure BI where
  blk : Nat
  sz : Nat
  es : Nat
  deriving Inhabited
abbrev Mu := Nat → BI

/-- A cell's value. -/
def VC (μ : Mu) (N : Nat) : Value → Value → Prop
  | .pointer (some a), v => a.spot = none ∧ a.block < N ∧ v = .pointer (some ⟨(μ a.block).blk, a.off, none⟩)
  | .slice (some a) n _, v => a.spot = none ∧ a.block < N ∧ ∃ o c, v = .slice (some ⟨(μ a.block).blk, o, none⟩) n c ∧
      ((o = a.off ∧ n ≤ c ∧ a.off + c * (μ a.block).es ≤ (μ a.block).sz) ∨ (n = 0 ∧ c = 0))
  | .slice none n _, v => n = 0 ∧ ∃ p : Option Addr, v = .slice p 0 0
  | .func fn first cap, v => first = #[] ∧ ∃ cap', v = .func fn #[] cap' ∧ cap'.size = cap.size ∧
      ∀ (i : Nat) (x : Value), cap[i]? = some x → ∃ (b o : Nat), x = .pointer (some ⟨b, o, none⟩) ∧ b < N ∧ cap'[i]? = some (.pointer (some ⟨(μ b).blk, o, none⟩))
  | .bool b, v => v = .bool b
  | .int k n, v => v = .int k n
  | .float k n, v => v = .float k n
  | .complex k n m, v => v = .complex k n m
  | .string s, v => v = .string s
  | .pointer none, v => v = .pointer none
  | .nilFunc, v => v = .nilFunc
  | .nilIface, v => v = .nilIface
  | .map _, _ => True
  | _, _ => False

def VL (μ : Mu) (N : Nat) (l l' : List Value) : Prop := l'.length = l.length ∧ ∀ (i : Nat) (x : Value), l[i]? = some x → ∃ x' : Value, l'[i]? = some x' ∧ VC μ N x x'

/-- A value: a cell's, or cells. -/
def VA (μ : Mu) (N : Nat) : Value → Value → Prop
  | .agg cs, v => ∃ cs' : Array Value, v = .agg cs' ∧ VL μ N cs.toList cs'.toList
  | x, v => VC μ N x v
/-- .. or several of these. -/
def VT (μ : Mu) (N : Nat) : Value → Value → Prop
  | .tuple vs, v => ∃ vs' : Array Value, v = .tuple vs' ∧ vs'.size = vs.size ∧ ∀ (i : Nat) (x : Value), vs[i]? = some x → ∃ x' : Value, vs'[i]? = some x' ∧ VA μ N x x'
  | x, v => VA μ N x v

/-- One map goes on where another one was. -/
def Ext (N : Nat) (μ μ' : Mu) : Prop := ∀ b, b < N → μ' b = μ b
theorem Ext.refl (N : Nat) (μ : Mu) : Ext N μ μ := fun _ _ => rfl
theorem Ext.trans {N N' : Nat} {μ μ' μ'' : Mu} (h : Ext N μ μ') (h' : Ext N' μ' μ'') (hN : N ≤ N') : Ext N μ μ'' := fun b hb => (h' b (Nat.lt_of_lt_of_le hb hN)).trans (h b hb)

theorem VC.mono {μ μ' : Mu} {N N' : Nat} (he : Ext N μ μ') (hN : N ≤ N') : ∀ {x v : Value}, VC μ N x v → VC μ' N' x v
  | .pointer (some a), v, h => ⟨h.1, Nat.lt_of_lt_of_le h.2.1 hN, by rw [he _ h.2.1]; exact h.2.2⟩
  | .slice (some a) n _, v, h => by
    obtain ⟨h1, h2, o, c, h3, h4⟩ := h
    refine ⟨h1, Nat.lt_of_lt_of_le h2 hN, o, c, ?_, ?_⟩
    · rw [he _ h2]; exact h3
    · rw [he _ h2]; exact h4
  | .slice none n _, v, h => h
  | .func fn first cap, v, h => by
    obtain ⟨h1, cap', h2, h3, h4⟩ := h
    refine ⟨h1, cap', h2, h3, fun i x hx => ?_⟩
    obtain ⟨b, o, e1, e2, e3⟩ := h4 i x hx
    exact ⟨b, o, e1, Nat.lt_of_lt_of_le e2 hN, by rw [he _ e2]; exact e3⟩
  | .bool b, v, h => h
  | .int k n, v, h => h
  | .float k n, v, h => h
  | .complex k n m, v, h => h
  | .string s, v, h => h
  | .pointer none, v, h => h
  | .nilFunc, v, h => h
  | .nilIface, v, h => h
  | .map _, _, h => h
  | .chan _, _, h => h.elim
  | .iface _ _, _, h => h.elim
  | .agg _, _, h => h.elim
  | .tuple _, _, h => h.elim

theorem VL.mono {μ μ' : Mu} {N N' : Nat} (he : Ext N μ μ') (hN : N ≤ N') {l l' : List Value} (h : VL μ N l l') : VL μ' N' l l' :=
  ⟨h.1, fun i x hx => let ⟨x', h1, h2⟩ := h.2 i x hx; ⟨x', h1, h2.mono he hN⟩⟩

theorem VA.of_cell {μ : Mu} {N : Nat} {x v : Value} (h : VC μ N x v) : VA μ N x v := by
  cases x <;> first | exact h | exact h.elim
theorem VT.of_any {μ : Mu} {N : Nat} {x v : Value} (h : VA μ N x v) : VT μ N x v := by
  cases x <;> first | exact h | exact False.elim h
theorem VT.of_cell {μ : Mu} {N : Nat} {x v : Value} (h : VC μ N x v) : VT μ N x v := VT.of_any (VA.of_cell h)

theorem VA.cases {μ : Mu} {N : Nat} {x v : Value} (h : VA μ N x v) : (∃ cs cs' : Array Value, x = .agg cs ∧ v = .agg cs' ∧ VL μ N cs.toList cs'.toList) ∨ VC μ N x v := by
  cases x with
  | agg cs => obtain ⟨cs', h1, h2⟩ := h; exact .inl ⟨cs, cs', rfl, h1, h2⟩
  | _ => exact .inr h
theorem VT.cases {μ : Mu} {N : Nat} {x v : Value} (h : VT μ N x v) : (∃ vs vs' : Array Value, x = .tuple vs ∧ v = .tuple vs' ∧ vs'.size = vs.size ∧ ∀ (i : Nat) (x : Value), vs[i]? = some x → ∃ x' : Value, vs'[i]? = some x' ∧ VA μ N x x') ∨ VA μ N x v := by
  cases x with
  | tuple vs => obtain ⟨vs', h1, h2, h3⟩ := h; exact .inl ⟨vs, vs', rfl, h1, h2, h3⟩
  | _ => exact .inr h
theorem VA.mono {μ μ' : Mu} {N N' : Nat} (he : Ext N μ μ') (hN : N ≤ N') {x v : Value} (h : VA μ N x v) : VA μ' N' x v := by
  rcases h.cases with ⟨cs, cs', rfl, rfl, h2⟩ | h
  · exact ⟨cs', rfl, h2.mono he hN⟩
  · exact VA.of_cell (h.mono he hN)
theorem VT.mono {μ μ' : Mu} {N N' : Nat} (he : Ext N μ μ') (hN : N ≤ N') {x v : Value} (h : VT μ N x v) : VT μ' N' x v := by
  rcases h.cases with ⟨vs, vs', rfl, rfl, h2, h3⟩ | h
  · exact ⟨vs', rfl, h2, fun i x hx => let ⟨x', e1, e2⟩ := h3 i x hx; ⟨x', e1, e2.mono he hN⟩⟩
  · exact VT.of_any (h.mono he hN)

theorem VC.scal {μ : Mu} {N : Nat} {x v : Value} (hs : isScal x = true) (h : VT μ N x v) : v = x := by
  cases x <;> first | exact h | simp [isScal] at hs
theorem VC.of_scal {μ : Mu} {N : Nat} {x : Value} (hs : isScal x = true) : VC μ N x x := by
  cases x <;> first | exact rfl | simp [isScal] at hs
theorem VC.of_noRef {μ : Mu} {N : Nat} {x : Value} (hs : noRef x = true) : VC μ N x x := by
  cases x with
  | pointer p => cases p <;> first | exact rfl | simp [noRef] at hs
  | slice a n c => cases a with
    | none => simp [noRef] at hs; obtain ⟨rfl, rfl⟩ := hs; exact ⟨rfl, none, rfl⟩
    | some a => simp [noRef] at hs
  | _ => first | exact rfl | simp [noRef] at hs
/-- What may lie in a cell is, on the machine's side, one cell. -/
theorem VC.oneCell {μ : Mu} {N : Nat} {x v : Value} (hc : isCell x = true) (h : VC μ N x v) : v.oneCell' = true := by
  cases x with
  | map _ => cases hc
  | pointer p => cases p with
    | none => cases h; rfl
    | some a => obtain ⟨_, _, rfl⟩ := h; rfl
  | slice a n c => cases a with
    | none => obtain ⟨_, p, rfl⟩ := h; rfl
    | some a => obtain ⟨_, _, o, c, rfl, _⟩ := h; rfl
  | func fn first cap => obtain ⟨_, cap', rfl, _⟩ := h; rfl
  | _ => first | (cases h; rfl) | exact h.elim

/-- Memory: each living object lies in its block. -/
def HR (μ : Mu) (H : Hp) (w : World) : Prop := ∀ (b : Nat) (o : AObj), getO H b = some o → ∃ (C : Array Value) (T : TypeId) (fz : Nat × Nat), w.heap[(μ b).blk]? = some (.cells C T fz) ∧ C.size = (μ b).sz ∧ (μ b).es = o.es ∧ o.cells.length ≤ C.size ∧
  (∀ (i : Nat) (x : Value), o.cells[i]? = some x → ∃ x' : Value, C[i]? = some x' ∧ VC μ H.length x x') ∧ (o.wr = true → ∀ i : Nat, i < C.size → (decide (fz.1 ≤ i) && decide (i < fz.2)) = false)

/-- What a slot holds, but for a variable of the frame's own. -/
def TVR (μ : Mu) (N : Nat) (lam : Nat → Nat) : TV → Value → Prop
  | .undef, _ => True
  | .val v, v' => VT μ N v v'
  | .lptr d o, v' => v' = .pointer (some ⟨lam d, o, none⟩)
  | .box _, _ => False

/-- A variable of the frame's own. -/
def BoxAt (μ : Mu) (N : Nat) (w : World) (k : Nat) (cs : List Value) : Prop := ∃ (C : Array Value) (T : TypeId), w.heap[k]? = some (.cells C T (0, 0)) ∧ VL μ N cs C.toList

def SlotR (μ : Mu) (N : Nat) (lam : Nat → Nat) (w : World) (i : Nat) : TV → Value → Prop
  | .box cs, v' => v' = .pointer (some ⟨lam i, 0, none⟩) ∧ BoxAt μ N w (lam i) cs
  | x, v' => TVR μ N lam x v'

structure Rel (X : Ctx) (S A : Nat → Prop) (w0 : World) (μ : Mu) (lam : Nat → Nat) (t : List TV) (H : Hp) (a : Act) (w : World) : Prop where
  os : w.os = w0.os
  tape : w.tape = w0.tape
  output : w.output = w0.output
  size : w0.heap.size ≤ w.heap.size
  kept : ∀ k : Nat, k < w0.heap.size → ¬ S k → w.heap[k]? = w0.heap[k]?
  wrote : ∀ (b : Nat) (o : AObj), getO H b = some o → o.wr = true → S (μ b).blk ∨ w0.heap.size ≤ (μ b).blk
  live : ∀ (b : Nat) (o : AObj), getO H b = some o → A (μ b).blk ∨ w0.heap.size ≤ (μ b).blk
  heap : HR μ H w
  inj : ∀ (b c : Nat) (o o' : AObj), getO H b = some o → getO H c = some o' → o.wr = true → b ≠ c → (μ b).blk ≠ (μ c).blk
  glob : ∀ (g b : Nat), X.glob g = some b → b < H.length ∧ (μ b).blk = g
  len : a.tmps.size = t.length
  slot : ∀ (i : Nat) (x : TV), t[i]? = some x → ∃ v, a.tmps[i]? = some v ∧ SlotR μ H.length lam w i x v
  boxNew : ∀ (i : Nat) (cs : List Value), t[i]? = some (.box cs) → w0.heap.size ≤ lam i
  boxObj : ∀ (i : Nat) (cs : List Value) (b : Nat) (o : AObj), t[i]? = some (.box cs) → getO H b = some o → (μ b).blk ≠ lam i
  boxBox : ∀ (i j : Nat) (cs cs' : List Value), t[i]? = some (.box cs) → t[j]? = some (.box cs') → i ≠ j → lam i ≠ lam j
  plain : a.defers = []

theorem getO_lt {H : Hp} {b : Nat} {o : AObj} (h : getO H b = some o) : b < H.length := by
  unfold getO at h
  rcases Nat.lt_or_ge b H.length with hl | hl
  · exact hl
  · rw [List.getElem?_eq_none hl] at h; simp at h

section
variable {X : Ctx} {S A : Nat → Prop} {w0 : World} {μ : Mu} {lam : Nat → Nat} {t : List TV} {H : Hp} {a : Act} {w : World}

theorem Rel.getD (h : Rel X S A w0 μ lam t H a w) (i : Nat) : t.getD i .undef = .undef ∨ ∃ x v, t.getD i .undef = x ∧ t[i]? = some x ∧ a.tmps[i]? = some v ∧ SlotR μ H.length lam w i x v := by
  rw [List.getD_eq_getElem?_getD]
  cases hx : t[i]? with
  | none => exact .inl rfl
  | some x =>
    obtain ⟨v, h1, h2⟩ := h.slot i x hx
    exact .inr ⟨x, v, rfl, rfl, h1, h2⟩

/-- An operand's value. -/
theorem Rel.ev (h : Rel X S A w0 μ lam t H a w) (z : Operand) : TVR μ H.length lam (ev X t z) (a.eval z) := by
  cases z with
  | tmp i =>
    unfold Go.Proofs.Ytmgofjgfmcmceaa.ev
    rcases h.getD i with e | ⟨x, v, e, _, hv, hs⟩
    · simp only [e]; trivial
    · simp only [e]
      have ha : a.eval (.tmp i) = v := by simp [Act.eval, Array.getD_eq_getD_getElem?, hv]
      rw [ha]
      cases x with
      | box cs => exact hs.1
      | undef => exact hs
      | val v => exact hs
      | lptr d o => exact hs
  | const v =>
    unfold Go.Proofs.Ytmgofjgfmcmceaa.ev
    cases hn : noRef v with
    | true => simp only [hn, if_true]; exact VT.of_cell (VC.of_noRef hn)
    | false => simp only [hn]; trivial
  | global g =>
    unfold Go.Proofs.Ytmgofjgfmcmceaa.ev
    cases hg : X.glob g with
    | none => simp only [hg]; trivial
    | some b =>
      simp only [hg]
      obtain ⟨h1, h2⟩ := h.glob g b hg
      exact ⟨rfl, h1, by simp [Act.eval, h2]⟩
  | func f => exact ⟨rfl, #[], rfl, rfl, fun i x hx => by simp at hx⟩

theorem Rel.evv (h : Rel X S A w0 μ lam t H a w) {z : Operand} {v : Value} (e : evv X t z = some v) : VT μ H.length v (a.eval z) := by
  have := h.ev z
  unfold Go.Proofs.Ytmgofjgfmcmceaa.evv at e
  cases hx : Go.Proofs.Ytmgofjgfmcmceaa.ev X t z with
  | val u => rw [hx] at e this; simp only [Option.some.injEq] at e; subst e; exact this
  | undef => rw [hx] at e; cases e
  | box _ => rw [hx] at e; cases e
  | lptr _ _ => rw [hx] at e; cases e

theorem evv_of_evs {z : Operand} {v : Value} (e : evs X t z = some v) : Go.Proofs.Ytmgofjgfmcmceaa.evv X t z = some v ∧ isScal v = true := by
  unfold Go.Proofs.Ytmgofjgfmcmceaa.evs at e
  unfold Go.Proofs.Ytmgofjgfmcmceaa.evv
  cases hx : Go.Proofs.Ytmgofjgfmcmceaa.ev X t z with
  | val u =>
    rw [hx] at e
    simp only at e
    split at e
    · rename_i hs; simp only [Option.some.injEq] at e; subst e; exact ⟨rfl, hs⟩
    · cases e
  | undef => rw [hx] at e; cases e
  | box _ => rw [hx] at e; cases e
  | lptr _ _ => rw [hx] at e; cases e
end
end Go.Proofs.Ytmgofjgfmcmceaa
end
section
namespace Go.Proofs.Ytmgofjgfmcmceaa
open Go.RowKit

theorem Ext.upd (N : Nat) (μ : Mu) (i : BI) : Ext N μ (fun b => if b = N then i else μ b) := fun b hb => by simp [Nat.ne_of_lt hb]

/-! ### lists of cells -/
theorem length_setCells : ∀ (vs cs : List Value) (i : Nat), (setCells cs i vs).length = cs.length
  | [], _, _ => rfl
  | v :: vs, cs, i => by rw [setCells, length_setCells vs]; simp
theorem VL.nil (μ : Mu) (N : Nat) : VL μ N [] [] := ⟨rfl, fun i x hx => by simp at hx⟩
theorem VL.set {μ : Mu} {N : Nat} {l l' : List Value} (h : VL μ N l l') {x x' : Value} (hx : VC μ N x x') (i : Nat) : VL μ N (l.set i x) (l'.set i x') := by
  refine ⟨by simp [h.1], fun j y hy => ?_⟩
  rw [List.getElem?_set] at hy ⊢
  by_cases e : i = j
  · simp only [e, if_true] at hy ⊢
    split at hy
    · simp only [Option.some.injEq] at hy; subst hy
      rename_i hlt
      exact ⟨x', by rw [if_pos (by rw [h.1]; exact hlt)], hx⟩
    · cases hy
  · simp only [e, if_false] at hy ⊢
    exact h.2 j y hy
theorem VL.cons {μ : Mu} {N : Nat} {l l' : List Value} {x x' : Value} (hx : VC μ N x x') (h : VL μ N l l') : VL μ N (x :: l) (x' :: l') := by
  refine ⟨by simp [h.1], fun i y hy => ?_⟩
  cases i with
  | zero => simp at hy; subst hy; exact ⟨x', rfl, hx⟩
  | succ i => simpa using h.2 i y (by simpa using hy)
theorem VL.uncons {μ : Mu} {N : Nat} {l l' : List Value} {x : Value} (h : VL μ N (x :: l) l') : ∃ x' r, l' = x' :: r ∧ VC μ N x x' ∧ VL μ N l r := by
  cases l' with
  | nil => have := h.1; simp at this
  | cons x' r =>
    refine ⟨x', r, rfl, ?_, by have := h.1; simpa using this, fun i y hy => by simpa using h.2 (i + 1) y (by simpa using hy)⟩
    obtain ⟨y, hy, hv⟩ := h.2 0 x rfl
    simp at hy; subst hy; exact hv
theorem VL.nil_iff {μ : Mu} {N : Nat} {l' : List Value} (h : VL μ N [] l') : l' = [] := List.eq_nil_of_length_eq_zero (by have := h.1; simpa using this)
theorem VL.setCells {μ : Mu} {N : Nat} : ∀ {vs vs' : List Value} (l l' : List Value) (i : Nat), VL μ N vs vs' → VL μ N l l' → VL μ N (setCells l i vs) (Go.Proofs.Ytmgofjgfmcmceaa.setCells l' i vs')
  | [], _, l, l', i, hv, h => by rw [hv.nil_iff]; exact h
  | v :: vs, _, l, l', i, hv, h => by
    obtain ⟨v', r, rfl, h1, h2⟩ := hv.uncons
    exact VL.setCells _ _ (i + 1) h2 (h.set h1 i)
theorem VL.oneCell {μ : Mu} {N : Nat} {l l' : List Value} (hc : l.all isCell = true) (h : VL μ N l l') : ∀ v ∈ l', v.oneCell' = true := by
  intro v hv
  obtain ⟨i, hi, rfl⟩ := List.getElem_of_mem hv
  have hl : i < l.length := by rw [← h.1]; exact hi
  obtain ⟨x', h1, h2⟩ := h.2 i l[i] (List.getElem?_eq_getElem hl)
  rw [List.getElem?_eq_getElem hi] at h1
  simp only [Option.some.injEq] at h1
  rw [h1]; exact VC.oneCell (List.all_eq_true.mp hc _ (List.getElem_mem hl)) h2
theorem VL.append {μ : Mu} {N : Nat} {l l' m m' : List Value} (h : VL μ N l l') (k : VL μ N m m') : VL μ N (l ++ m) (l' ++ m') := by
  refine ⟨by simp [h.1, k.1], fun i y hy => ?_⟩
  rw [List.getElem?_append] at hy ⊢
  rw [h.1]
  split at hy
  · rename_i hlt; rw [if_pos hlt]; exact h.2 i y hy
  · rename_i hlt; rw [if_neg hlt]; exact k.2 _ y hy
theorem VL.take {μ : Mu} {N : Nat} {l l' : List Value} (h : VL μ N l l') (n : Nat) : VL μ N (l.take n) (l'.take n) := by
  refine ⟨by simp [h.1], fun i y hy => ?_⟩
  rw [List.getElem?_take] at hy ⊢
  split at hy
  · rename_i hlt; rw [if_pos hlt]; exact h.2 i y hy
  · cases hy
theorem VL.drop {μ : Mu} {N : Nat} {l l' : List Value} (h : VL μ N l l') (n : Nat) : VL μ N (l.drop n) (l'.drop n) := by
  refine ⟨by simp [h.1], fun i y hy => ?_⟩
  rw [List.getElem?_drop] at hy ⊢
  exact h.2 _ y hy
theorem VL.of_all {μ : Mu} {N : Nat} {l : List Value} (h : ∀ v ∈ l, isScal v = true) : VL μ N l l :=
  ⟨rfl, fun _ x hx => ⟨x, hx, VC.of_scal (h x (List.mem_of_getElem? hx))⟩⟩
theorem VL.of_noRef {μ : Mu} {N : Nat} {l : List Value} (h : ∀ v ∈ l, noRef v = true) : VL μ N l l :=
  ⟨rfl, fun _ x hx => ⟨x, hx, VC.of_noRef (h x (List.mem_of_getElem? hx))⟩⟩

/-! ### the world -/
/-- A block put in another's place. -/
def setBlk (w : World) (g : Nat) (o : Obj) : World := { w with heap := w.heap.setIfInBounds g o }
theorem heap_setBlk_same {w : World} {g : Nat} {o o' : Obj} (h : w.heap[g]? = some o') : (setBlk w g o).heap[g]? = some o := by
  have hlt : g < w.heap.size := (Array.getElem?_eq_some_iff.1 h).1
  simp [setBlk, hlt]
theorem heap_setBlk_other {w : World} {g k : Nat} {o : Obj} (h : g ≠ k) : (setBlk w g o).heap[k]? = w.heap[k]? := by
  simp [setBlk, Array.getElem?_setIfInBounds_ne h]
theorem size_setBlk (w : World) (g : Nat) (o : Obj) : (setBlk w g o).heap.size = w.heap.size := by simp [setBlk]
theorem setBlk_setBlk (w : World) (g : Nat) (o o' : Obj) : setBlk (setBlk w g o) g o' = setBlk w g o' := by
  simp [setBlk]
theorem setBlk_self {w : World} {g : Nat} {o : Obj} (h : w.heap[g]? = some o) : setBlk w g o = w := by
  have hlt : g < w.heap.size := (Array.getElem?_eq_some_iff.1 h).1
  have he : w.heap[g] = o := by rw [Array.getElem?_eq_getElem hlt] at h; simpa using h
  have : w.heap.setIfInBounds g o = w.heap := by
    apply Array.ext
    · simp
    · intro i h1 h2
      rw [Array.getElem_setIfInBounds]
      split
      · rename_i e; subst e; exact he.symm
      · rfl
  simp [setBlk, this]

theorem run_store_blk (P : Program) {w : World} {g i : Nat} {cur : Array Value} {T : TypeId} {fz : Nat × Nat} (hg : w.heap[g]? = some (.cells cur T fz)) (hi : i < cur.size)
    (hf : (decide (fz.1 ≤ i) && decide (i < fz.2)) = false) {v : Value} (hv : v.oneCell' = true) :
    (store ⟨g, i, none⟩ v).run P w = .ok () (setBlk w g (.cells (cur.setIfInBounds i v) T fz)) := by
  have hcell : w.cell? ⟨g, i, none⟩ = some cur[i] := by simp [World.cell?, hg, hi]
  have hfro : w.frozen? ⟨g, i, none⟩ = false := by
    obtain ⟨lo, hi'⟩ := fz
    simpa [World.frozen?, hg] using hf
  rw [run_store P w _ v _ hv, hcell]
  simp only [hfro]
  have hlt : g < w.heap.size := (Array.getElem?_eq_some_iff.1 hg).1
  have : w.setCell ⟨g, i, none⟩ v = setBlk w g (.cells (cur.setIfInBounds i v) T fz) := by
    simp only [World.setCell, setBlk]
    congr 1
    apply Array.ext
    · simp
    · intro j h1 h2
      rw [Array.getElem_modify]
      by_cases e : g = j
      · subst e
        have he : w.heap[g] = .cells cur T fz := by rw [Array.getElem?_eq_getElem hlt] at hg; simpa using hg
        simp [he]
      · rw [if_neg e, Array.getElem_setIfInBounds, if_neg e]
  simp [this]

theorem run_storeCells_blk (P : Program) (g o : Nat) (T : TypeId) (fz : Nat × Nat) : ∀ (vs : List Value) (i : Nat) (cur : Array Value) (w : World), w.heap[g]? = some (.cells cur T fz) → o + i + vs.length ≤ cur.size →
    (∀ j, j < cur.size → (decide (fz.1 ≤ j) && decide (j < fz.2)) = false) → (∀ v ∈ vs, v.oneCell' = true) →
    (storeCells ⟨g, o, none⟩ vs i).run P w = .ok () (setBlk w g (.cells (setCells cur.toList (o + i) vs).toArray T fz))
  | [], i, cur, w, hg, _, _, _ => by
    simp only [storeCells, setCells, Array.toArray_toList]
    rw [setBlk_self hg]; rfl
  | v :: rest, i, cur, w, hg, hl, hf, h1 => by
    simp only [List.length_cons] at hl
    have hadd : (⟨g, o, none⟩ : Addr).add i = ⟨g, o + i, none⟩ := by unfold Addr.add; split <;> simp_all
    have hst : (store ((⟨g, o, none⟩ : Addr).add i) v).run P w = .ok () (setBlk w g (.cells (cur.setIfInBounds (o + i) v) T fz)) := by
      rw [hadd]; exact run_store_blk P hg (by omega) (hf _ (by omega)) (h1 v (by simp))
    have ih := run_storeCells_blk P g o T fz rest (i + 1) (cur.setIfInBounds (o + i) v) (setBlk w g (.cells (cur.setIfInBounds (o + i) v) T fz)) (heap_setBlk_same hg) (by simp; omega) (fun j hj => hf j (by simpa using hj)) (fun x hx => h1 x (by simp [hx]))
    simp only [storeCells, Sem.run_bind, hst, Result.andThen_ok, ih, setBlk_setBlk, setCells]
    rw [show o + (i + 1) = o + i + 1 by omega]
    simp

theorem run_loadCells_blk (P : Program) {w : World} {g o n : Nat} {cur : Array Value} {T : TypeId} {fz : Nat × Nat} (hg : w.heap[g]? = some (.cells cur T fz)) (hn : o + n ≤ cur.size) :
    (loadCells ⟨g, o, none⟩ n).run P w = .ok ((cur.toList.drop o).take n).toArray w := by
  have hlen : ((cur.toList.drop o).take n).length = n := by simp; omega
  have h := run_loadCells_list (P := P) w ⟨g, o, none⟩ ((cur.toList.drop o).take n) (fun j v hj => by
    have hadd : (⟨g, o, none⟩ : Addr).add j = ⟨g, o + j, none⟩ := by unfold Addr.add; split <;> simp_all
    rw [hadd]
    rw [List.getElem?_take] at hj
    split at hj
    · rw [List.getElem?_drop] at hj
      simpa [World.cell?, hg] using hj
    · cases hj)
  rwa [hlen] at h

/-! ### slots -/
section
variable {X : Ctx} {S A : Nat → Prop} {w0 : World} {μ : Mu} {lam : Nat → Nat} {t : List TV} {H : Hp} {a : Act} {w : World}

theorem TVR.noBox {μ : Mu} {N : Nat} {lam : Nat → Nat} {x : TV} {v : Value} (h : TVR μ N lam x v) : ∀ cs, x ≠ .box cs := by
  rintro cs rfl; exact h
theorem SlotR.of_tvr {μ : Mu} {N : Nat} {lam : Nat → Nat} {w : World} {i : Nat} {x : TV} {v : Value} (h : TVR μ N lam x v) : SlotR μ N lam w i x v := by
  cases x <;> first | exact h | exact h.elim

/-- A slot gets a value. -/
theorem Rel.put (h : Rel X S A w0 μ lam t H a w) (dst : Option Tmp) {x : TV} {v : Value} (hx : TVR μ H.length lam x v) : Rel X S A w0 μ lam (putT t dst x) H (a.put dst v) w := by
  cases dst with
  | none => exact h
  | some d =>
    have hnb := hx.noBox
    have key : ∀ (i : Nat) (cs : List Value), (t.set d x)[i]? = some (.box cs) → t[i]? = some (.box cs) := by
      intro i cs hi
      rw [List.getElem?_set] at hi
      split at hi
      · split at hi
        · simp only [Option.some.injEq] at hi; exact absurd hi (hnb cs)
        · cases hi
      · exact hi
    refine { h with len := ?_, slot := ?_, boxNew := ?_, boxObj := ?_, boxBox := ?_, plain := ?_ }
    · simp [Act.put, putT, h.len]
    · intro i y hy
      simp only [putT] at hy
      rw [List.getElem?_set] at hy
      simp only [Act.put]
      split at hy
      · rename_i e; subst e
        split at hy
        · rename_i hlt
          simp only [Option.some.injEq] at hy; subst hy
          refine ⟨v, ?_, SlotR.of_tvr hx⟩
          simp [h.len, hlt]
        · cases hy
      · rename_i e
        obtain ⟨u, h1, h2⟩ := h.slot i y hy
        exact ⟨u, by rw [Array.getElem?_setIfInBounds_ne e]; exact h1, h2⟩
    · exact fun i cs hi => h.boxNew i cs (key i cs hi)
    · exact fun i cs b o hi ho => h.boxObj i cs b o (key i cs hi) ho
    · exact fun i j cs cs' hi hj hij => h.boxBox i j cs cs' (key i cs hi) (key j cs' hj) hij
    · exact h.plain

theorem BoxAt.mono {μ μ' : Mu} {N N' : Nat} (he : Ext N μ μ') (hN : N ≤ N') {w w' : World} {k : Nat} {cs : List Value} (hw : w'.heap[k]? = w.heap[k]?) (h : BoxAt μ N w k cs) : BoxAt μ' N' w' k cs := by
  obtain ⟨C, T, h1, h2⟩ := h
  exact ⟨C, T, by rw [hw]; exact h1, h2.mono he hN⟩
theorem TVR.mono {μ μ' : Mu} {N N' : Nat} (he : Ext N μ μ') (hN : N ≤ N') {lam : Nat → Nat} {x : TV} {v : Value} (h : TVR μ N lam x v) : TVR μ' N' lam x v := by
  cases x with
  | val u => exact VT.mono he hN h
  | _ => exact h

theorem Rel.boxLt (h : Rel X S A w0 μ lam t H a w) {i : Nat} {cs : List Value} (hi : t[i]? = some (.box cs)) : lam i < w.heap.size := by
  obtain ⟨v, _, h2⟩ := h.slot i _ hi
  obtain ⟨_, C, T, h3, _⟩ := h2
  exact (Array.getElem?_eq_some_iff.1 h3).1
theorem Rel.objLt (h : Rel X S A w0 μ lam t H a w) {b : Nat} {o : AObj} (hb : getO H b = some o) : (μ b).blk < w.heap.size := by
  obtain ⟨C, T, fz, h3, _⟩ := h.heap b o hb
  exact (Array.getElem?_eq_some_iff.1 h3).1

theorem heap_alloc_old' (w : World) (o : Obj) {k : Nat} (h : k < w.heap.size) : (w.alloc o).heap[k]? = w.heap[k]? := Below.heap_alloc w o k h
theorem heap_alloc_new' (w : World) (o : Obj) : (w.alloc o).heap[w.heap.size]? = some o := heap_alloc_new w o

/-- A new variable of the frame's own. -/
theorem Rel.newBox (h : Rel X S A w0 μ lam t H a w) (d : Nat) (hno : ∀ (i o : Nat), t[i]? ≠ some (TV.lptr d o)) {cs : List Value} {C : Array Value} (T : TypeId) (hc : VL μ H.length cs C.toList) :
    Rel X S A w0 μ (fun i => if i = d then w.heap.size else lam i) (t.set d (.box cs)) H (a.put (some d) (.pointer (some ⟨w.heap.size, 0, none⟩))) (w.alloc (.cells C T)) := by
  have hold : ∀ k, k < w.heap.size → (w.alloc (.cells C T)).heap[k]? = w.heap[k]? := fun k hk => heap_alloc_old' w _ hk
  have key : ∀ (i : Nat) (cs' : List Value), (t.set d (.box cs))[i]? = some (.box cs') → i ≠ d → t[i]? = some (.box cs') := by
    intro i cs' hi hd
    rwa [List.getElem?_set_ne (Ne.symm hd)] at hi
  refine { os := h.os, tape := h.tape, output := h.output, size := by simp; have := h.size; omega, kept := ?_, wrote := h.wrote, live := h.live, heap := ?_, inj := h.inj, glob := h.glob, len := ?_, slot := ?_, boxNew := ?_, boxObj := ?_, boxBox := ?_, plain := h.plain }
  · exact fun k hk hs => by rw [hold k (Nat.lt_of_lt_of_le hk h.size)]; exact h.kept k hk hs
  · intro b o hb
    obtain ⟨C', T', fz, h1, h2⟩ := h.heap b o hb
    exact ⟨C', T', fz, by rw [hold _ (h.objLt hb)]; exact h1, h2⟩
  · simp [Act.put, h.len]
  · intro i x hx
    by_cases e : i = d
    · subst e
      rw [List.getElem?_set] at hx
      simp only [if_true] at hx
      split at hx
      · rename_i hlt
        simp only [Option.some.injEq] at hx; subst hx
        refine ⟨_, by simp [Act.put, h.len, hlt]; rfl, by simp, C, T, ?_, hc⟩
        simp only [if_true]; exact heap_alloc_new' w _
      · cases hx
    · rw [List.getElem?_set_ne (Ne.symm e)] at hx
      obtain ⟨v, h1, h2⟩ := h.slot i x hx
      refine ⟨v, by simp only [Act.put]; rw [Array.getElem?_setIfInBounds_ne (Ne.symm e)]; exact h1, ?_⟩
      cases x with
      | box cs' =>
        obtain ⟨h3, h4⟩ := h2
        refine ⟨by simpa [e] using h3, ?_⟩
        simp only [e, if_false]
        exact h4.mono (Ext.refl _ _) (Nat.le_refl _) (hold _ (h.boxLt hx))
      | lptr d' o =>
        have : d' ≠ d := by rintro rfl; exact hno i o hx
        have h2' : v = .pointer (some ⟨lam d', o, none⟩) := h2
        show v = .pointer (some ⟨if d' = d then w.heap.size else lam d', o, none⟩)
        simpa [this] using h2'
      | val u => exact h2
      | undef => trivial
  · intro i cs' hi
    by_cases e : i = d
    · simp only [e, if_true]; exact h.size
    · simp only [e, if_false]; exact h.boxNew i cs' (key i cs' hi e)
  · intro i cs' b o hi hb
    by_cases e : i = d
    · simp only [e, if_true]; exact Nat.ne_of_lt (h.objLt hb)
    · simp only [e, if_false]; exact h.boxObj i cs' b o (key i cs' hi e) hb
  · intro i j cs1 cs2 hi hj hij
    by_cases e : i = d
    · have ej : j ≠ d := by omega
      simp only [e, if_true, ej, if_false]
      exact (Nat.ne_of_lt (h.boxLt (key j cs2 hj ej))).symm
    · by_cases ej : j = d
      · simp only [e, ej, if_true, if_false]; exact Nat.ne_of_lt (h.boxLt (key i cs1 hi e))
      · simp only [e, ej, if_false]; exact h.boxBox i j cs1 cs2 (key i cs1 hi e) (key j cs2 hj ej) hij

/-- A cell of the frame's own variable is written. -/
theorem Rel.setBox (h : Rel X S A w0 μ lam t H a w) {d : Nat} {cs cs' : List Value} (hd : t[d]? = some (.box cs)) {C C' : Array Value} {T : TypeId} (hw : w.heap[lam d]? = some (.cells C T (0, 0))) (hc : VL μ H.length cs' C'.toList) :
    Rel X S A w0 μ lam (t.set d (.box cs')) H a (setBlk w (lam d) (.cells C' T (0, 0))) := by
  have hoth : ∀ k, k ≠ lam d → (setBlk w (lam d) (.cells C' T (0, 0))).heap[k]? = w.heap[k]? := fun k hk => heap_setBlk_other (Ne.symm hk)
  have key : ∀ (i : Nat) (c : List Value), (t.set d (.box cs'))[i]? = some (.box c) → ∃ c', t[i]? = some (.box c') := by
    intro i c hi
    by_cases e : i = d
    · exact ⟨cs, by rw [e]; exact hd⟩
    · exact ⟨c, by rwa [List.getElem?_set_ne (Ne.symm e)] at hi⟩
  have hlt : d < t.length := (List.getElem?_eq_some_iff.1 hd).1
  refine { os := h.os, tape := h.tape, output := h.output, size := by rw [size_setBlk]; exact h.size, kept := ?_, wrote := h.wrote, live := h.live, heap := ?_, inj := h.inj, glob := h.glob, len := by simp [h.len], slot := ?_, boxNew := ?_, boxObj := ?_, boxBox := ?_, plain := h.plain }
  · intro k hk hs
    have := h.boxNew d cs hd
    rw [hoth k (by omega)]; exact h.kept k hk hs
  · intro b o hb
    obtain ⟨C1, T1, fz, h1, h2⟩ := h.heap b o hb
    exact ⟨C1, T1, fz, by rw [hoth _ (h.boxObj d cs b o hd hb)]; exact h1, h2⟩
  · intro i x hx
    by_cases e : i = d
    · subst e
      rw [List.getElem?_set] at hx
      simp only [if_true, hlt] at hx
      simp only [Option.some.injEq] at hx; subst hx
      obtain ⟨v, h1, h2⟩ := h.slot i _ hd
      exact ⟨v, h1, h2.1, C', T, heap_setBlk_same hw, hc⟩
    · rw [List.getElem?_set_ne (Ne.symm e)] at hx
      obtain ⟨v, h1, h2⟩ := h.slot i x hx
      refine ⟨v, h1, ?_⟩
      cases x with
      | box c =>
        exact ⟨h2.1, h2.2.mono (Ext.refl _ _) (Nat.le_refl _) (hoth _ (h.boxBox i d c cs hx hd e))⟩
      | _ => exact h2
  · intro i c hi
    obtain ⟨c', hc'⟩ := key i c hi
    exact h.boxNew i c' hc'
  · intro i c b o hi hb
    obtain ⟨c', hc'⟩ := key i c hi
    exact h.boxObj i c' b o hc' hb
  · intro i j c1 c2 hi hj hij
    obtain ⟨c1', h1⟩ := key i c1 hi
    obtain ⟨c2', h2⟩ := key j c2 hj
    exact h.boxBox i j c1' c2' h1 h2 hij
end
end Go.Proofs.Ytmgofjgfmcmceaa
end
section
namespace Go.Proofs.Ytmgofjgfmcmceaa
open Go.RowKit

/-- The cells of an object stand first in its block. -/
def VP (μ : Mu) (N : Nat) (cs : List Value) (C : Array Value) : Prop := cs.length ≤ C.size ∧ ∀ (i : Nat) (x : Value), cs[i]? = some x → ∃ x' : Value, C[i]? = some x' ∧ VC μ N x x'
theorem VP.mono {μ μ' : Mu} {N N' : Nat} (he : Ext N μ μ') (hN : N ≤ N') {l : List Value} {C : Array Value} (h : VP μ N l C) : VP μ' N' l C :=
  ⟨h.1, fun i x hx => let ⟨x', h1, h2⟩ := h.2 i x hx; ⟨x', h1, h2.mono he hN⟩⟩
theorem VL.toVP {μ : Mu} {N : Nat} {l l' : List Value} (h : VL μ N l l') : VP μ N l l'.toArray := ⟨by simp [h.1], fun i x hx => by simpa using h.2 i x hx⟩
theorem VL.toVP_app {μ : Mu} {N : Nat} {l l' m : List Value} (h : VL μ N l l') : VP μ N l (l' ++ m).toArray := by
  refine ⟨by simp [h.1], fun i x hx => ?_⟩
  obtain ⟨x', h1, h2⟩ := h.2 i x hx
  refine ⟨x', ?_, h2⟩
  have : i < l'.length := (List.getElem?_eq_some_iff.1 h1).1
  simp only [List.getElem?_toArray]
  rw [List.getElem?_append_left this]; exact h1
theorem VL.toVP_arr {μ : Mu} {N : Nat} {l l' : List Value} (A : Array Value) (h : VL μ N l l') : VP μ N l (l'.toArray ++ A) := by
  have := h.toVP_app (m := A.toList)
  have e : (l' ++ A.toList).toArray = l'.toArray ++ A := by apply Array.ext'; simp
  rwa [e] at this
theorem VP.set {μ : Mu} {N : Nat} {l l' : List Value} (h : VP μ N l l'.toArray) {x x' : Value} (hx : VC μ N x x') (i : Nat) : VP μ N (l.set i x) (l'.set i x').toArray := by
  refine ⟨by have := h.1; simpa using this, fun j y hy => ?_⟩
  have hl : l.length ≤ l'.length := by have := h.1; simpa using this
  rw [List.getElem?_set] at hy
  simp only [List.getElem?_toArray]
  rw [List.getElem?_set]
  by_cases e : i = j
  · simp only [e, if_true] at hy ⊢
    split at hy
    · simp only [Option.some.injEq] at hy; subst hy
      rename_i hlt
      exact ⟨x', by rw [if_pos (by omega)], hx⟩
    · cases hy
  · simp only [e, if_false] at hy ⊢
    simpa using h.2 j y hy
theorem VP.setCells {μ : Mu} {N : Nat} : ∀ {vs vs' : List Value} (l l' : List Value) (i : Nat), VL μ N vs vs' → VP μ N l l'.toArray → VP μ N (setCells l i vs) (Go.Proofs.Ytmgofjgfmcmceaa.setCells l' i vs').toArray
  | [], _, l, l', i, hv, h => by rw [hv.nil_iff]; exact h
  | v :: vs, _, l, l', i, hv, h => by
    obtain ⟨v', r, rfl, h1, h2⟩ := hv.uncons
    exact VP.setCells _ _ (i + 1) h2 (h.set h1 i)
/-- A part of an object's cells. -/
theorem VP.part {μ : Mu} {N : Nat} {l : List Value} {C : Array Value} (h : VP μ N l C) (off n : Nat) (hn : off + n ≤ l.length) : VL μ N ((l.drop off).take n) ((C.toList.drop off).take n) := by
  refine ⟨by have := h.1; simp; omega, fun i x hx => ?_⟩
  rw [List.getElem?_take] at hx ⊢
  split at hx
  · rename_i hlt
    rw [if_pos hlt]
    rw [List.getElem?_drop] at hx ⊢
    simpa using h.2 _ x hx
  · cases hx

section
variable {X : Ctx} {S A : Nat → Prop} {w0 : World} {μ : Mu} {lam : Nat → Nat} {t : List TV} {H : Hp} {a : Act} {w : World}

theorem Rel.vp (h : Rel X S A w0 μ lam t H a w) {b : Nat} {o : AObj} (hb : getO H b = some o) : ∃ (C : Array Value) (T : TypeId) (fz : Nat × Nat), w.heap[(μ b).blk]? = some (.cells C T fz) ∧ C.size = (μ b).sz ∧ (μ b).es = o.es ∧ VP μ H.length o.cells C ∧
    (o.wr = true → ∀ i : Nat, i < C.size → (decide (fz.1 ≤ i) && decide (i < fz.2)) = false) := by
  obtain ⟨C, T, fz, h1, h2, h3, h4, h5, h6⟩ := h.heap b o hb
  exact ⟨C, T, fz, h1, h2, h3, ⟨h4, h5⟩, h6⟩

/-- The heap is the same, something was drawn. -/
theorem Rel.same (h : Rel X S A w0 μ lam t H a w) {w1 : World} (h1 : w1.heap = w.heap) (h2 : w1.os = w.os) (h3 : w1.tape = w.tape) (h4 : w1.output = w.output) : Rel X S A w0 μ lam t H a w1 :=
  { os := h2.trans h.os, tape := h3.trans h.tape, output := h4.trans h.output, size := by rw [h1]; exact h.size, kept := by rw [h1]; exact h.kept, wrote := h.wrote, live := h.live,
    heap := fun b o hb => by rw [h1]; exact h.heap b o hb, inj := h.inj, glob := h.glob, len := h.len,
    slot := fun i x hx => by
      obtain ⟨v, e1, e2⟩ := h.slot i x hx
      refine ⟨v, e1, ?_⟩
      cases x with
      | box cs => exact ⟨e2.1, e2.2.mono (Ext.refl _ _) (Nat.le_refl _) (by rw [h1])⟩
      | _ => exact e2,
    boxNew := h.boxNew, boxObj := h.boxObj, boxBox := h.boxBox, plain := h.plain }

theorem getO_append_old {H : Hp} {x : Option AObj} {b : Nat} (hb : b < H.length) : getO (H ++ [x]) b = getO H b := by
  simp [getO, List.getElem?_append_left hb]
theorem getO_append_new {H : Hp} {x : Option AObj} : getO (H ++ [x]) H.length = x := by
  simp [getO]
theorem getO_append {H : Hp} {x : Option AObj} {b : Nat} {o : AObj} (h : getO (H ++ [x]) b = some o) : (b < H.length ∧ getO H b = some o) ∨ (b = H.length ∧ x = some o) := by
  have hl := getO_lt h
  simp only [List.length_append, List.length_cons, List.length_nil] at hl
  rcases Nat.lt_or_ge b H.length with hb | hb
  · exact .inl ⟨hb, by rwa [getO_append_old hb] at h⟩
  · have : b = H.length := by omega
    subst this
    exact .inr ⟨rfl, by rwa [getO_append_new] at h⟩

/-- A new object in a new block. -/
theorem Rel.newObj (h : Rel X S A w0 μ lam t H a w) {w1 : World} {cs : List Value} {C : Array Value} {T : TypeId} {fz : Nat × Nat} (wr : Bool) (es : Nat)
    (hos : w1.os = w.os) (htape : w1.tape = w.tape) (hout : w1.output = w.output) (hsz : w.heap.size ≤ w1.heap.size) (hold : ∀ k, k < w.heap.size → w1.heap[k]? = w.heap[k]?)
    (hnew : w1.heap[w.heap.size]? = some (.cells C T fz)) (hc : VP μ H.length cs C) (hf : ∀ i : Nat, i < C.size → (decide (fz.1 ≤ i) && decide (i < fz.2)) = false) :
    Rel X S A w0 (fun b => if b = H.length then ⟨w.heap.size, C.size, es⟩ else μ b) lam t (H ++ [some ⟨wr, es, cs⟩]) a w1 := by
  have he : Ext H.length μ (fun b => if b = H.length then (⟨w.heap.size, C.size, es⟩ : BI) else μ b) := Ext.upd _ _ _
  have hN : H.length ≤ (H ++ [some (⟨wr, es, cs⟩ : AObj)]).length := by simp
  have hμ : ∀ b, b < H.length → (if b = H.length then (⟨w.heap.size, C.size, es⟩ : BI) else μ b) = μ b := fun b hb => by simp [Nat.ne_of_lt hb]
  refine { os := hos.trans h.os, tape := htape.trans h.tape, output := hout.trans h.output, size := Nat.le_trans h.size hsz, kept := ?_, wrote := ?_, live := ?_, heap := ?_, inj := ?_, glob := ?_, len := h.len, slot := ?_, boxNew := h.boxNew, boxObj := ?_, boxBox := h.boxBox, plain := h.plain }
  · exact fun k hk hs => by rw [hold k (Nat.lt_of_lt_of_le hk h.size)]; exact h.kept k hk hs
  · intro b o hb hw
    rcases getO_append hb with ⟨hl, hb⟩ | ⟨rfl, _⟩
    · simp only [hμ b hl]; exact h.wrote b o hb hw
    · simp only [if_true]; exact .inr h.size
  · intro b o hb
    rcases getO_append hb with ⟨hl, hb⟩ | ⟨rfl, _⟩
    · simp only [hμ b hl]; exact h.live b o hb
    · simp only [if_true]; exact .inr h.size
  · intro b o hb
    rcases getO_append hb with ⟨hl, hb⟩ | ⟨rfl, hx⟩
    · obtain ⟨C1, T1, fz1, h1, h2, h3, h4, h5⟩ := h.vp hb
      have h4' := h4.mono he hN
      exact ⟨C1, T1, fz1, by simp only [hμ b hl]; rw [hold _ (h.objLt hb)]; exact h1, by simp only [hμ b hl]; exact h2, by simp only [hμ b hl]; exact h3, h4'.1, h4'.2, h5⟩
    · simp only [Option.some.injEq] at hx; subst hx
      have hc' := hc.mono he hN
      exact ⟨C, T, fz, by simp only [if_true]; exact hnew, by simp only [if_true], by simp only [if_true], hc'.1, hc'.2, fun _ => hf⟩
  · intro b c o o' hb hc1 hw hbc
    rcases getO_append hb with ⟨hl, hb⟩ | ⟨rfl, _⟩
    · rcases getO_append hc1 with ⟨hl', hc1⟩ | ⟨rfl, _⟩
      · simp only [hμ b hl, hμ c hl']; exact h.inj b c o o' hb hc1 hw hbc
      · simp only [hμ b hl, if_true]; exact Nat.ne_of_lt (h.objLt hb)
    · rcases getO_append hc1 with ⟨hl', hc1⟩ | ⟨rfl, _⟩
      · simp only [hμ c hl', if_true]; exact (Nat.ne_of_lt (h.objLt hc1)).symm
      · exact absurd rfl hbc
  · intro g b hg
    obtain ⟨h1, h2⟩ := h.glob g b hg
    exact ⟨Nat.lt_of_lt_of_le h1 hN, by simp only [hμ b h1]; exact h2⟩
  · intro i x hx
    obtain ⟨v, h1, h2⟩ := h.slot i x hx
    refine ⟨v, h1, ?_⟩
    cases x with
    | box c => exact ⟨h2.1, h2.2.mono he hN (hold _ (h.boxLt hx))⟩
    | val u => exact VT.mono he hN h2
    | lptr d o => exact h2
    | undef => trivial
  · intro i c b o hi hb
    rcases getO_append hb with ⟨hl, hb⟩ | ⟨rfl, _⟩
    · simp only [hμ b hl]; exact h.boxObj i c b o hi hb
    · simp only [if_true]; exact (Nat.ne_of_lt (h.boxLt hi)).symm

theorem getO_set {H : Hp} {b c : Nat} {x : Option AObj} {o : AObj} (h : getO (H.set b x) c = some o) : (c = b ∧ x = some o) ∨ (c ≠ b ∧ getO H c = some o) := by
  unfold getO at h ⊢
  rw [List.getElem?_set] at h
  by_cases e : b = c
  · simp only [e, if_true] at h
    split at h
    · exact .inl ⟨e.symm, by simpa using h⟩
    · simp at h
  · simp only [e, if_false] at h
    exact .inr ⟨Ne.symm e, h⟩

/-- An object is written. -/
theorem Rel.setObj (h : Rel X S A w0 μ lam t H a w) {b : Nat} {o : AObj} (hb : getO H b = some o) (hwr : o.wr = true) {C C' : Array Value} {T : TypeId} {fz : Nat × Nat} (hw : w.heap[(μ b).blk]? = some (.cells C T fz)) (hs : C'.size = C.size)
    {cs' : List Value} (hc : VP μ H.length cs' C') :
    Rel X S A w0 μ lam t (H.set b (some { o with cells := cs' })) a (setBlk w (μ b).blk (.cells C' T fz)) := by
  have hoth : ∀ k, k ≠ (μ b).blk → (setBlk w (μ b).blk (.cells C' T fz)).heap[k]? = w.heap[k]? := fun k hk => heap_setBlk_other (Ne.symm hk)
  have hlen : (H.set b (some { o with cells := cs' })).length = H.length := by simp
  obtain ⟨C0, T0, fz0, g1, g2, g3, g4, g5⟩ := h.vp hb
  rw [hw] at g1
  simp only [Option.some.injEq, Obj.cells.injEq] at g1
  obtain ⟨rfl, rfl, rfl⟩ := g1
  refine { os := h.os, tape := h.tape, output := h.output, size := by rw [size_setBlk]; exact h.size, kept := ?_, wrote := ?_, live := ?_, heap := ?_, inj := ?_, glob := ?_, len := h.len, slot := ?_, boxNew := h.boxNew, boxObj := ?_, boxBox := h.boxBox, plain := h.plain }
  · intro k hk hns
    rw [hoth k (by
      rintro rfl
      rcases h.wrote b o hb hwr with h1 | h1
      · exact hns h1
      · omega)]
    exact h.kept k hk hns
  · intro c o' hc1 hw'
    rcases getO_set hc1 with ⟨rfl, hx⟩ | ⟨_, hc1⟩
    · exact h.wrote c o hb hwr
    · exact h.wrote c o' hc1 hw'
  · intro c o' hc1
    rcases getO_set hc1 with ⟨rfl, hx⟩ | ⟨_, hc1⟩
    · exact h.live c o hb
    · exact h.live c o' hc1
  · intro c o' hc1
    rcases getO_set hc1 with ⟨rfl, hx⟩ | ⟨hne, hc1⟩
    · simp only [Option.some.injEq] at hx; subst hx
      exact ⟨C', T, fz, heap_setBlk_same hw, by rw [hs]; exact g2, g3, hc.1, by rw [hlen]; exact hc.2, fun hh => by rw [hs]; exact g5 hwr⟩
    · obtain ⟨C1, T1, fz1, h1, h2⟩ := h.heap c o' hc1
      exact ⟨C1, T1, fz1, by rw [hoth _ (h.inj b c o o' hb hc1 hwr (Ne.symm hne)).symm]; exact h1, by rw [hlen]; exact h2⟩
  · intro c d o1 o2 h1 h2 hw' hcd
    rcases getO_set h1 with ⟨e1, hx⟩ | ⟨_, k1⟩
    · rcases getO_set h2 with ⟨e2, _⟩ | ⟨_, k2⟩
      · exact absurd (e1.trans e2.symm) hcd
      · rw [e1]; exact h.inj b d o o2 hb k2 hwr (by rw [← e1]; exact hcd)
    · rcases getO_set h2 with ⟨e2, _⟩ | ⟨_, k2⟩
      · rw [e2]; exact h.inj c b o1 o k1 hb hw' (by rw [← e2]; exact hcd)
      · exact h.inj c d o1 o2 k1 k2 hw' hcd
  · intro g c hg
    rw [hlen]; exact h.glob g c hg
  · intro i x hx
    obtain ⟨v, h1, h2⟩ := h.slot i x hx
    rw [hlen]
    refine ⟨v, h1, ?_⟩
    cases x with
    | box c => exact ⟨h2.1, h2.2.mono (Ext.refl _ _) (Nat.le_refl _) (hoth _ (h.boxObj i c b o hx hb).symm)⟩
    | _ => exact h2
  · intro i c d o' hi hd
    rcases getO_set hd with ⟨rfl, _⟩ | ⟨_, hd⟩
    · exact h.boxObj i c d o hi hb
    · exact h.boxObj i c d o' hi hd

/-- An object dies. -/
theorem Rel.kill (h : Rel X S A w0 μ lam t H a w) (b : Nat) : Rel X S A w0 μ lam t (H.set b none) a w := by
  have hlen : (H.set b none).length = H.length := by simp
  have key : ∀ {c : Nat} {o : AObj}, getO (H.set b none) c = some o → getO H c = some o := by
    intro c o hc
    rcases getO_set hc with ⟨_, hx⟩ | ⟨_, hc⟩
    · cases hx
    · exact hc
  refine { os := h.os, tape := h.tape, output := h.output, size := h.size, kept := h.kept, wrote := ?_, live := ?_, heap := ?_, inj := ?_, glob := ?_, len := h.len, slot := ?_, boxNew := h.boxNew, boxObj := ?_, boxBox := h.boxBox, plain := h.plain }
  · exact fun c o hc => h.wrote c o (key hc)
  · exact fun c o hc => h.live c o (key hc)
  · intro c o hc; rw [hlen]; exact h.heap c o (key hc)
  · exact fun c d o o' hc hd => h.inj c d o o' (key hc) (key hd)
  · intro g c hg; rw [hlen]; exact h.glob g c hg
  · rw [hlen]; exact h.slot
  · exact fun i c d o hi hd => h.boxObj i c d o hi (key hd)

/-- An object goes on in its block under another number. -/
theorem Rel.reuse (h : Rel X S A w0 μ lam t H a w) {b : Nat} {o : AObj} (hb : getO H b = some o) (hwr : o.wr = true) :
    Rel X S A w0 (fun c => if c = H.length then μ b else μ c) lam t (H.set b none ++ [some o]) a w := by
  have he : Ext H.length μ (fun c => if c = H.length then μ b else μ c) := Ext.upd _ _ _
  have hl0 : (H.set b none).length = H.length := by simp
  have hN : H.length ≤ (H.set b none ++ [some o]).length := by simp
  have hμ : ∀ c, c < H.length → (if c = H.length then μ b else μ c) = μ c := fun c hc => by simp [Nat.ne_of_lt hc]
  have key : ∀ {c : Nat} {o' : AObj}, getO (H.set b none ++ [some o]) c = some o' → (c < H.length ∧ c ≠ b ∧ getO H c = some o') ∨ (c = H.length ∧ o' = o) := by
    intro c o' hc
    rcases getO_append hc with ⟨hl, hc⟩ | ⟨rfl, hx⟩
    · rcases getO_set hc with ⟨_, hx⟩ | ⟨hne, hc⟩
      · cases hx
      · exact .inl ⟨by omega, hne, hc⟩
    · exact .inr ⟨hl0, by simpa using hx.symm⟩
  refine { os := h.os, tape := h.tape, output := h.output, size := h.size, kept := h.kept, wrote := ?_, live := ?_, heap := ?_, inj := ?_, glob := ?_, len := h.len, slot := ?_, boxNew := h.boxNew, boxObj := ?_, boxBox := h.boxBox, plain := h.plain }
  · intro c o' hc hw'
    rcases key hc with ⟨hl, _, hc⟩ | ⟨rfl, rfl⟩
    · simp only [hμ c hl]; exact h.wrote c o' hc hw'
    · simp only [if_true]; exact h.wrote b o' hb hw'
  · intro c o' hc
    rcases key hc with ⟨hl, _, hc⟩ | ⟨rfl, rfl⟩
    · simp only [hμ c hl]; exact h.live c o' hc
    · simp only [if_true]; exact h.live b o' hb
  · intro c o' hc
    rcases key hc with ⟨hl, _, hc⟩ | ⟨rfl, rfl⟩
    · obtain ⟨C1, T1, fz1, h1, h2, h3, h4, h5⟩ := h.vp hc
      have h4' := h4.mono he hN
      exact ⟨C1, T1, fz1, by simp only [hμ c hl]; exact h1, by simp only [hμ c hl]; exact h2, by simp only [hμ c hl]; exact h3, h4'.1, h4'.2, h5⟩
    · obtain ⟨C1, T1, fz1, h1, h2, h3, h4, h5⟩ := h.vp hb
      have h4' := h4.mono he hN
      exact ⟨C1, T1, fz1, by simp only [if_true]; exact h1, by simp only [if_true]; exact h2, by simp only [if_true]; exact h3, h4'.1, h4'.2, h5⟩
  · intro c d o1 o2 h1 h2 hw' hcd
    rcases key h1 with ⟨hl1, hn1, k1⟩ | ⟨e1, f1⟩
    · rcases key h2 with ⟨hl2, hn2, k2⟩ | ⟨e2, f2⟩
      · simp only [hμ c hl1, hμ d hl2]; exact h.inj c d o1 o2 k1 k2 hw' hcd
      · simp only [hμ c hl1, e2, if_true]; exact h.inj c b o1 o k1 hb hw' hn1
    · rcases key h2 with ⟨hl2, hn2, k2⟩ | ⟨e2, f2⟩
      · simp only [hμ d hl2, e1, if_true]; exact h.inj b d o o2 hb k2 hwr (Ne.symm hn2)
      · exact absurd (e1.trans e2.symm) hcd
  · intro g c hg
    obtain ⟨h1, h2⟩ := h.glob g c hg
    exact ⟨Nat.lt_of_lt_of_le h1 hN, by simp only [hμ c h1]; exact h2⟩
  · intro i x hx
    obtain ⟨v, h1, h2⟩ := h.slot i x hx
    refine ⟨v, h1, ?_⟩
    cases x with
    | box c => exact ⟨h2.1, h2.2.mono he hN rfl⟩
    | val u => exact VT.mono he hN h2
    | lptr d o => exact h2
    | undef => trivial
  · intro i c d o' hi hd
    rcases key hd with ⟨hl, _, hd⟩ | ⟨rfl, rfl⟩
    · simp only [hμ d hl]; exact h.boxObj i c d o' hi hd
    · simp only [if_true]; exact h.boxObj i c b o' hi hb
end
end Go.Proofs.Ytmgofjgfmcmceaa
end
section
namespace Go.Proofs.Ytmgofjgfmcmceaa
open Go.RowKit

theorem pureRun_ok {α : Type} (P : Program) : ∀ (s : Sem α) {a : α}, pureRun P s = some a → ∀ w, s.run P w = .ok a w
  | .pure a, b, h, w => by simp only [pureRun, Option.some.injEq] at h; subst h; rfl
  | .program k, b, h, w => by simp only [pureRun] at h; simp only [Sem.run]; exact pureRun_ok P (k P) h w
  | .mark m k, b, h, w => by simp only [pureRun] at h; simp only [Sem.run]; exact pureRun_ok P k h w
  | .load .., _, h, _ => by simp [pureRun] at h
  | .store .., _, h, _ => by simp [pureRun] at h
  | .new .., _, h, _ => by simp [pureRun] at h
  | .shape .., _, h, _ => by simp [pureRun] at h
  | .freeze .., _, h, _ => by simp [pureRun] at h
  | .frozen .., _, h, _ => by simp [pureRun] at h
  | .getObj .., _, h, _ => by simp [pureRun] at h
  | .setObj .., _, h, _ => by simp [pureRun] at h
  | .choose .., _, h, _ => by simp [pureRun] at h
  | .sys .., _, h, _ => by simp [pureRun] at h
  | .halt _, _, h, _ => by simp [pureRun] at h

theorem pureRun_bind {α β : Type} (P : Program) (s : Sem α) (f : α → Sem β) : pureRun P (s >>= f) = (pureRun P s).bind fun a => pureRun P (f a) := by
  show pureRun P (s.bind f) = _
  induction s with
  | pure a => rfl
  | program k ih => simp only [Sem.bind, pureRun, ih]
  | mark m k ih => simp only [Sem.bind, pureRun, ih]
  | _ => rfl

theorem pureNext_ok {P : Program} {s : Sem Next} {v : Value} (h : pureNext P s = some v) (w : World) : s.run P w = .ok (.value v) w ∧ isScal v = true := by
  unfold pureNext at h
  cases hs : pureRun P s with
  | none => simp [hs] at h
  | some n =>
    rw [hs] at h
    cases n <;> simp only [reduceCtorEq] at h
    rename_i u
    split at h
    · rename_i hu
      simp only [Option.some.injEq] at h; subst h
      exact ⟨pureRun_ok P s hs w, hu⟩
    · cases h

theorem run_sizeOf {P : Program} {t : TypeId} {n : Nat} (h : sizeP P t = some n) (w : World) : (sizeOf t).run P w = .ok n w := by
  unfold sizeP at h
  cases hi : P.info? t with
  | none => simp [hi] at h
  | some i => simp [hi] at h; simp [sizeOf, typeInfo, hi, h]
theorem run_zeroV {P : Program} {t : TypeId} {z : Value} (h : zeroP P t = some z) (w : World) : (zeroValue t).run P w = .ok z w := by
  unfold zeroP at h
  cases hi : P.info? t with
  | none => simp [hi] at h
  | some i => simp [hi] at h; simp [zeroValue, typeInfo, hi, h]
theorem run_under {P : Program} {t : TypeId} {d : TypeDesc} (h : P.underlying t = some d) (w : World) : (underlying t).run P w = .ok d w := by
  simp [underlying, h]
theorem run_isAgg {P : Program} {t : TypeId} {b : Bool} (h : aggP P t = some b) (w : World) : (isAgg t).run P w = .ok b w := by
  unfold aggP at h
  cases hu : P.underlying t with
  | none => simp [hu] at h
  | some d =>
    rw [hu] at h
    simp only [isAgg, Sem.run_bind, run_under hu, Result.andThen_ok]
    cases d <;> simp at h <;> subst h <;> rfl
theorem run_bytes {P : Program} {t : TypeId} {n : Nat} (h : bytesP P t = some n) (_w : World) : ∃ i, P.info? t = some i ∧ i.bytes = n := by
  unfold bytesP at h
  cases hi : P.info? t with
  | none => simp [hi] at h
  | some i => simp [hi] at h; exact ⟨i, rfl, h⟩

/-- What an operation owes. -/
def OpOk (X : Ctx) (S A : Nat → Prop) (w0 : World) (μ : Mu) (_lam : Nat → Nat) (H : Hp) (a : Act) (w : World) (o : Oper) (t1 : List TV) (x : TV) (H1 : Hp) : Prop :=
  ∃ (nx : Next) (w1 : World) (v : Value) (μ1 : Mu) (lam1 : Nat → Nat), (execOp a.eval o).run X.P w = .ok nx w1 ∧ (nx = .value v ∨ (nx = .skip ∧ v = undef)) ∧
    Ext H.length μ μ1 ∧ H.length ≤ H1.length ∧ Rel X S A w0 μ1 lam1 (putT t1 o.dst x) H1 (a.put o.dst v) w1

section
variable {X : Ctx} {S A : Nat → Prop} {w0 : World} {μ : Mu} {lam : Nat → Nat} {t : List TV} {H : Hp} {a : Act} {w : World} {o : Oper}

/-- The world stays; a value. -/
theorem OpOk.value (h : Rel X S A w0 μ lam t H a w) {x : TV} {v : Value} (hr : (execOp a.eval o).run X.P w = .ok (.value v) w) (hx : TVR μ H.length lam x v) : OpOk X S A w0 μ lam H a w o t x H :=
  ⟨_, w, v, μ, lam, hr, .inl rfl, Ext.refl _ _, Nat.le_refl _, h.put o.dst hx⟩

theorem OpOk.gen (h : Rel X S A w0 μ lam t H a w) {r : Value} (hp : pureNext X.P (execOp (rho X t) o) = some r) (he : execOp (rho X t) o = execOp a.eval o) : OpOk X S A w0 μ lam H a w o t (.val r) H := by
  obtain ⟨h1, h2⟩ := pureNext_ok hp w
  exact OpOk.value h (by rw [← he]; exact h1) (VT.of_cell (VC.of_scal h2))

theorem VT.agg_scal {μ : Mu} {N : Nat} {cs : Array Value} {v : Value} (hs : cs.toList.all isScal = true) (h : VT μ N (.agg cs) v) : v = .agg cs := by
  obtain ⟨cs', rfl, h1, h2⟩ := h
  congr 1
  apply Array.ext'
  apply List.ext_getElem?
  intro i
  rcases Nat.lt_or_ge i cs.toList.length with hi | hi
  · obtain ⟨x', e1, e2⟩ := h2 i _ (List.getElem?_eq_getElem hi)
    have hx : isScal cs.toList[i] = true := List.all_eq_true.1 hs _ (List.getElem_mem hi)
    rw [e1, List.getElem?_eq_getElem hi, VC.scal hx (VT.of_cell e2)]
  · rw [List.getElem?_eq_none hi, List.getElem?_eq_none (by rw [h1]; exact hi)]

theorem rho_scal (h : Rel X S A w0 μ lam t H a w) {z : Operand} {v : Value} (e : evv X t z = some v) (hs : isScal v = true) : rho X t z = a.eval z := by
  rw [rho, e, Option.getD_some]; exact (VC.scal hs (h.evv e)).symm
theorem rho_agg (h : Rel X S A w0 μ lam t H a w) {z : Operand} {cs : Array Value} (e : evv X t z = some (.agg cs)) (hs : cs.toList.all isScal = true) : rho X t z = a.eval z := by
  rw [rho, e, Option.getD_some]; exact (VT.agg_scal hs (h.evv e)).symm
theorem rho_evs (h : Rel X S A w0 μ lam t H a w) {z : Operand} {v : Value} (e : evs X t z = some v) : rho X t z = a.eval z :=
  let ⟨h1, h2⟩ := evv_of_evs e; rho_scal h h1 h2

theorem op_move (h : Rel X S A w0 μ lam t H a w) {x : Operand} (ho : o.op = .move x ∨ o.op = .assign x) : OpOk X S A w0 μ lam H a w o t (ev X t x) H :=
  OpOk.value h (v := a.eval x) (by rcases ho with ho | ho <;> simp [execOp, ho]) (h.ev x)

theorem op_pick (h : Rel X S A w0 μ lam t H a w) {c x y : Operand} (ho : o.op = .pick c x y) {b : Bool} (hc : ev X t c = .val (.bool b)) : OpOk X S A w0 μ lam H a w o t (bif b then ev X t x else ev X t y) H := by
  have hb : a.eval c = .bool b := by have := h.ev c; rw [hc] at this; exact this
  refine OpOk.value h (v := if b then a.eval x else a.eval y) (by simp [execOp, ho, hb, asBool]) ?_
  cases b
  · exact h.ev y
  · exact h.ev x

theorem cells_rel {v v' : Value} (h : VT μ H.length v v') (hc : v.cells.toList.all isCell = true) : VL μ H.length v.cells.toList v'.cells.toList := by
  rcases h.cases with ⟨vs, vs', rfl, rfl, _⟩ | h
  · simp [Value.cells, isCell] at hc
  · rcases h.cases with ⟨cs, cs', rfl, rfl, h2⟩ | h
    · exact h2
    · have h1 : v.cells = #[v] := by cases v <;> first | rfl | exact h.elim
      have hcv : isCell v = true := by rw [h1] at hc; simpa using hc
      have h2 : v'.cells = #[v'] := by have := h.oneCell hcv; cases v' <;> first | rfl | simp [Value.oneCell'] at this
      rw [h1, h2]
      exact VL.cons h (VL.nil _ _)

theorem newVar_ok (h : Rel X S A w0 μ lam t H a w) {f : FuncId} {dst : Option Tmp} {cs : List Value} {C : Array Value} (T : TypeId) (hc : VL μ H.length cs C.toList) {x : TV} {t1 : List TV} {H1 : Hp} (hn : newVar X f t H dst cs = some (x, t1, H1)) :
    ∃ (μ1 : Mu) (lam1 : Nat → Nat), Ext H.length μ μ1 ∧ H.length ≤ H1.length ∧ Rel X S A w0 μ1 lam1 (putT t1 dst x) H1 (a.put dst (.pointer (some ⟨w.heap.size, 0, none⟩))) (w.alloc (.cells C T)) := by
  unfold newVar at hn
  split at hn
  · cases dst with
    | none => simp at hn
    | some d =>
      simp only at hn
      split at hn
      · split at hn
        · rename_i hno
          simp only [Option.some.injEq, Prod.mk.injEq] at hn
          obtain ⟨rfl, rfl, rfl⟩ := hn
          refine ⟨μ, _, Ext.refl _ _, Nat.le_refl _, h.newBox d ?_ T hc⟩
          intro i o hi
          have := List.all_eq_true.1 hno _ (List.mem_of_getElem? hi)
          simp at this
        · cases hn
      · simp only [Option.some.injEq, Prod.mk.injEq] at hn
        obtain ⟨rfl, rfl, rfl⟩ := hn
        have hvp : VP μ H.length cs C := by have := hc.toVP; simpa using this
        have hr := h.newObj (w1 := w.alloc (.cells C T)) (cs := cs) (C := C) (T := T) (fz := (0, 0)) true 0 rfl rfl rfl (by simp) (fun k hk => heap_alloc_old' w _ hk) (heap_alloc_new' w _) hvp (by simp)
        refine ⟨_, lam, Ext.upd _ _ _, by simp, hr.put (some d) ?_⟩
        exact ⟨rfl, by simp, by simp⟩
  · cases hn

theorem op_alloc (h : Rel X S A w0 μ lam t H a w) {f : FuncId} {e : TypeId} (ho : o.op = .alloc e) {z : Value} (hz : zeroP X.P e = some z) (hr : z.cells.toList.all noRef = true) {x : TV} {t1 : List TV} {H1 : Hp}
    (hn : newVar X f t H o.dst z.cells.toList = some (x, t1, H1)) : OpOk X S A w0 μ lam H a w o t1 x H1 := by
  obtain ⟨μ1, lam1, h1, h2, h3⟩ := newVar_ok h e (C := z.cells) (VL.of_noRef (fun v hv => List.all_eq_true.1 hr v hv)) hn
  refine ⟨.value _, w.alloc (.cells z.cells e), _, μ1, lam1, ?_, .inl rfl, h1, h2, h3⟩
  simp [execOp, ho, Instr.alloc, run_zeroV hz, Go.newVar, newRow]

theorem op_box (h : Rel X S A w0 μ lam t H a w) {f : FuncId} {e : TypeId} {y : Operand} (ho : o.op = .box e y) {v : Value} (hv : evv X t y = some v) {x : TV} {t1 : List TV} {H1 : Hp}
    (hn : newVar X f t H o.dst v.cells.toList = some (x, t1, H1)) : OpOk X S A w0 μ lam H a w o t1 x H1 := by
  have hc : v.cells.toList.all isCell = true := by
    unfold newVar at hn
    split at hn
    · assumption
    · cases hn
  obtain ⟨μ1, lam1, h1, h2, h3⟩ := newVar_ok h e (C := (a.eval y).cells) (cells_rel (h.evv hv) hc) hn
  refine ⟨.value _, w.alloc (.cells (a.eval y).cells e), _, μ1, lam1, ?_, .inl rfl, h1, h2, h3⟩
  simp [execOp, ho, Instr.box, Go.newVar, newRow]
end
end Go.Proofs.Ytmgofjgfmcmceaa
end
section
namespace Go.Proofs.Ytmgofjgfmcmceaa
open Go.RowKit

theorem VL.vp {μ : Mu} {N : Nat} {l : List Value} {C : Array Value} (h : VL μ N l C.toList) : VP μ N l C := by have := h.toVP; simpa using this
theorem VP.vl {μ : Mu} {N : Nat} {l : List Value} {C : Array Value} (h : VP μ N l C) (hs : C.size = l.length) : VL μ N l C.toList := ⟨by simp [hs], fun i x hx => by simpa using h.2 i x hx⟩

theorem run_load_at (P : Program) {w : World} {g i : Nat} {cur : Array Value} {T : TypeId} {fz : Nat × Nat} (hg : w.heap[g]? = some (.cells cur T fz)) {v : Value} (hi : cur[i]? = some v) : (load ⟨g, i, none⟩).run P w = .ok v w := by
  have hcell : w.cell? ⟨g, i, none⟩ = some v := by simp [World.cell?, hg, hi]
  rw [run_load, hcell]

theorem ldv_ok {P : Program} {μ : Mu} {N : Nat} {w : World} {g : Nat} {C : Array Value} {T : TypeId} {fz : Nat × Nat} (hg : w.heap[g]? = some (.cells C T fz)) {cs : List Value} (hc : VP μ N cs C) {ty : TypeId} {off : Nat} {v : Value}
    (hl : ldv P ty cs off = some v) : ∃ v', (loadVar ty ⟨g, off, none⟩).run P w = .ok v' w ∧ VT μ N v v' := by
  unfold ldv at hl
  cases ha : aggP P ty with
  | none => simp [ha] at hl
  | some b =>
    rw [ha] at hl
    cases b with
    | false =>
      simp only at hl
      obtain ⟨v', h1, h2⟩ := hc.2 _ _ hl
      refine ⟨v', ?_, VT.of_cell h2⟩
      simp only [loadVar, Sem.run_bind, run_isAgg ha, Result.andThen_ok]
      exact run_load_at P hg h1
    | true =>
      simp only at hl
      cases hs : sizeP P ty with
      | none => simp [hs] at hl
      | some n =>
        rw [hs] at hl
        simp only at hl
        split at hl
        · rename_i hn
          simp only [Option.some.injEq] at hl
          subst hl
          have hp := hc.part off n hn
          refine ⟨.agg ((C.toList.drop off).take n).toArray, ?_, ?_⟩
          · have hsz : off + n ≤ C.size := by have := hc.1; omega
            simp [loadVar, Sem.run_bind, run_isAgg ha, run_sizeOf hs, run_loadCells_blk P hg hsz]
          · exact ⟨_, rfl, by simpa using hp⟩
        · cases hl

/-- A part of a value that is at hand. -/
theorem part_ok {P : Program} {μ : Mu} {N : Nat} {cs cs' : List Value} (hc : VL μ N cs cs') {ty : TypeId} {off : Nat} {v : Value} (hl : ldv P ty cs off = some v) (w : World) :
    ∃ v', (part ty cs'.toArray off).run P w = .ok v' w ∧ VT μ N v v' := by
  unfold ldv at hl
  cases ha : aggP P ty with
  | none => simp [ha] at hl
  | some b =>
    rw [ha] at hl
    cases b with
    | false =>
      simp only at hl
      obtain ⟨v', h1, h2⟩ := hc.2 _ _ hl
      refine ⟨v', ?_, VT.of_cell h2⟩
      simp [part, run_isAgg ha, h1]
    | true =>
      simp only at hl
      cases hs : sizeP P ty with
      | none => simp [hs] at hl
      | some n =>
        rw [hs] at hl
        simp only at hl
        split at hl
        · rename_i hn
          simp only [Option.some.injEq] at hl
          subst hl
          refine ⟨.agg ((cs'.drop off).take n).toArray, ?_, _, rfl, (hc.drop off).take n⟩
          simp only [part, Sem.run_bind, run_isAgg ha, run_sizeOf hs, Result.andThen_ok, if_true, Sem.run_pure]
          congr 2
          apply Array.ext'
          simp [List.extract_eq_take_drop, Nat.add_sub_cancel_left]
        · cases hl

theorem stv_ok {P : Program} {μ : Mu} {N : Nat} {w : World} {g : Nat} {C : Array Value} {T : TypeId} {fz : Nat × Nat} (hg : w.heap[g]? = some (.cells C T fz)) (hf : ∀ i : Nat, i < C.size → (decide (fz.1 ≤ i) && decide (i < fz.2)) = false)
    {cs cs' : List Value} (hc : VP μ N cs C) {ty : TypeId} {off : Nat} {v v' : Value} (hv : v.cells.toList.all isCell = true → VL μ N v.cells.toList v'.cells.toList) (hl : stv P ty cs off v = some cs') :
    ∃ C' : Array Value, (storeVar ty ⟨g, off, none⟩ v').run P w = .ok () (setBlk w g (.cells C' T fz)) ∧ C'.size = C.size ∧ VP μ N cs' C' ∧ cs'.length = cs.length := by
  unfold stv at hl
  cases hs : sizeP P ty with
  | none => simp [hs] at hl
  | some n =>
    rw [hs] at hl
    simp only at hl
    split at hl
    · rename_i hn
      obtain ⟨h1, h2, h3⟩ := hn
      simp only [Option.some.injEq] at hl
      subst hl
      have hv' := hv h2
      have hlen : v'.cells.size = n := by have := hv'.1; simpa [h1] using this
      have hst := run_storeCells_blk P g off T fz v'.cells.toList 0 C w hg (by have := hc.1; simp [hlen]; omega) hf (hv'.oneCell h2)
      refine ⟨(setCells C.toList off v'.cells.toList).toArray, ?_, by simp [length_setCells], VP.setCells _ _ _ hv' (by simpa using hc), length_setCells _ _ _⟩
      simp only [storeVar, Sem.run_bind, run_sizeOf hs, Result.andThen_ok, hlen, ne_eq, not_true_eq_false, if_false]
      simpa using hst
    · cases hl

section
variable {X : Ctx} {S A : Nat → Prop} {w0 : World} {μ : Mu} {lam : Nat → Nat} {t : List TV} {H : Hp} {a : Act} {w : World} {o : Oper}

/-- Where an address leads. -/
def plA (μ : Mu) (lam : Nat → Nat) : Pl → Addr
  | .loc d o => ⟨lam d, o, none⟩
  | .obj b o => ⟨(μ b).blk, o, none⟩
def Pl.ok (N : Nat) : Pl → Prop
  | .loc _ _ => True
  | .obj b _ => b < N

theorem place_ok {N : Nat} {x : TV} {v : Value} {p : Pl} (hx : TVR μ N lam x v) (hp : placeOf x = some p) : v = .pointer (some (plA μ lam p)) ∧ p.ok N := by
  unfold placeOf at hp
  split at hp
  · simp only [Option.some.injEq] at hp; subst hp
    exact ⟨hx, trivial⟩
  · simp only [Option.some.injEq] at hp; subst hp
    exact ⟨hx.2.2, hx.2.1⟩
  · cases hp
theorem Pl.tvr {N : Nat} {p : Pl} (h : p.ok N) : TVR μ N lam p.tv (.pointer (some (plA μ lam p))) := by
  cases p with
  | loc d o => exact rfl
  | obj b o => exact ⟨rfl, h, rfl⟩
theorem Pl.add_ok {N : Nat} {p : Pl} (h : p.ok N) (n : Nat) : (p.add n).ok N := by cases p <;> exact h
theorem plA_add (p : Pl) (n : Nat) : plA μ lam (p.add n) = (plA μ lam p).add n := by
  cases p <;> simp [plA, Pl.add, Addr.add_lit]

theorem getD_box {d : Nat} {cs : List Value} (h : t.getD d .undef = .box cs) : t[d]? = some (.box cs) := by
  rw [List.getD_eq_getElem?_getD] at h
  cases hx : t[d]? with
  | none => rw [hx] at h; simp at h
  | some x => rw [hx] at h; simp at h; rw [h]

theorem op_load (h : Rel X S A w0 μ lam t H a w) {ty : TypeId} {z : Operand} (ho : o.op = .load ty z) {p : Pl} (hp : placeOf (ev X t z) = some p) {v : Value}
    (hl : (∃ d off cs, p = .loc d off ∧ t.getD d .undef = .box cs ∧ ldv X.P ty cs off = some v) ∨ (∃ b off ob, p = .obj b off ∧ getO H b = some ob ∧ ldv X.P ty ob.cells off = some v)) : OpOk X S A w0 μ lam H a w o t (.val v) H := by
  obtain ⟨he, hok⟩ := place_ok (h.ev z) hp
  have key : ∃ v', (loadVar ty (plA μ lam p)).run X.P w = .ok v' w ∧ VT μ H.length v v' := by
    rcases hl with ⟨d, off, cs, rfl, hd, hl⟩ | ⟨b, off, ob, rfl, hb, hl⟩
    · obtain ⟨u, _, _, C, T, h3, h4⟩ := h.slot d _ (getD_box hd)
      exact ldv_ok h3 h4.vp hl
    · obtain ⟨C, T, fz, h1, h2, h3, h4, h5⟩ := h.vp hb
      exact ldv_ok h1 h4 hl
  obtain ⟨v', h1, h2⟩ := key
  exact OpOk.value h (v := v') (by simp [execOp, ho, he, Instr.loadAt, Instr.sureAddr, h1]) h2

theorem op_store_box (h : Rel X S A w0 μ lam t H a w) {ty : TypeId} {z y : Operand} (ho : o.op = .store ty z y) {d off : Nat} (hp : placeOf (ev X t z) = some (.loc d off)) {v : Value} (hv : evv X t y = some v)
    {cs cs' : List Value} (hd : t.getD d .undef = .box cs) (hs : stv X.P ty cs off v = some cs') : OpOk X S A w0 μ lam H a w o (t.set d (.box cs')) (.val undef) H := by
  obtain ⟨he, _⟩ := place_ok (h.ev z) hp
  have hd' := getD_box hd
  obtain ⟨u, _, _, C, T, h3, h4⟩ := h.slot d _ hd'
  obtain ⟨C', h5, h6, h7, h8⟩ := stv_ok (P := X.P) h3 (by simp) h4.vp (fun hc => cells_rel (h.evv hv) hc) hs
  have hlen : C.size = cs.length := by have := h4.1; simpa using this
  have hr := h.setBox hd' h3 (cs' := cs') (C' := C') (h7.vl (by rw [h6, hlen, h8]))
  refine ⟨.skip, _, undef, μ, lam, ?_, .inr ⟨rfl, rfl⟩, Ext.refl _ _, Nat.le_refl _, hr.put o.dst ?_⟩
  · simp only [execOp, ho, he, Instr.storeAt, Instr.sureAddr, Sem.run_bind, Sem.run_pure, Result.andThen_ok, plA, h5]
  · exact ⟨#[], rfl, rfl, fun i x hx => by simp at hx⟩

theorem op_store_obj (h : Rel X S A w0 μ lam t H a w) {ty : TypeId} {z y : Operand} (ho : o.op = .store ty z y) {b off : Nat} (hp : placeOf (ev X t z) = some (.obj b off)) {v : Value} (hv : evv X t y = some v)
    {ob : AObj} {cs' : List Value} (hb : getO H b = some ob) (hw : ob.wr = true) (hs : stv X.P ty ob.cells off v = some cs') : OpOk X S A w0 μ lam H a w o t (.val undef) (H.set b (some { ob with cells := cs' })) := by
  obtain ⟨he, _⟩ := place_ok (h.ev z) hp
  obtain ⟨C, T, fz, g1, g2, g3, g4, g5⟩ := h.vp hb
  obtain ⟨C', h5, h6, h7, h8⟩ := stv_ok (P := X.P) g1 (g5 hw) g4 (fun hc => cells_rel (h.evv hv) hc) hs
  have hr := h.setObj hb hw g1 h6 h7
  refine ⟨.skip, _, undef, μ, lam, ?_, .inr ⟨rfl, rfl⟩, Ext.refl _ _, by simp, hr.put o.dst ?_⟩
  · simp only [execOp, ho, he, Instr.storeAt, Instr.sureAddr, Sem.run_bind, Sem.run_pure, Result.andThen_ok, plA, h5]
  · exact ⟨#[], rfl, rfl, fun i x hx => by simp at hx⟩

theorem op_nilCheck (h : Rel X S A w0 μ lam t H a w) {z : Operand} (ho : o.op = .nilCheck z) {p : Pl} (hp : placeOf (ev X t z) = some p) : OpOk X S A w0 μ lam H a w o t p.tv H := by
  obtain ⟨he, hok⟩ := place_ok (h.ev z) hp
  exact OpOk.value h (v := .pointer (some (plA μ lam p))) (by simp [execOp, ho, he]) (Pl.tvr hok)

theorem fieldP_ok {P : Program} {s : TypeId} {f off : Nat} {ty : TypeId} (h : fieldP P s f = some (off, ty)) : ∃ fields fl n, P.underlying s = some (.struct fields) ∧ fields[f]? = some fl ∧ fl.offset = off ∧ fl.type = ty ∧ sizeP P fl.type = some (n + 1) := by
  unfold fieldP at h
  split at h
  · rename_i fields hu
    split at h
    · rename_i fl hf
      split at h
      · rename_i n hs
        simp only [Option.some.injEq, Prod.mk.injEq] at h
        exact ⟨fields, fl, n, hu, hf, h.1, h.2, hs⟩
      · cases h
    · cases h
  · cases h

theorem op_fieldAddr (h : Rel X S A w0 μ lam t H a w) {s : TypeId} {z : Operand} {f : Nat} (ho : o.op = .fieldAddr s z f) {p : Pl} (hp : placeOf (ev X t z) = some p) {off : Nat} {ty : TypeId} (hf : fieldP X.P s f = some (off, ty)) :
    OpOk X S A w0 μ lam H a w o t (p.add off).tv H := by
  obtain ⟨he, hok⟩ := place_ok (h.ev z) hp
  obtain ⟨fields, fl, n, h1, h2, rfl, rfl, h5⟩ := fieldP_ok hf
  refine OpOk.value h (v := .pointer (some (plA μ lam (p.add fl.offset)))) ?_ (Pl.tvr (Pl.add_ok hok _))
  rw [plA_add]
  simp [execOp, ho, he, Instr.fieldAt, run_under h1, h2, Instr.sureAddr, fieldPlace, run_sizeOf h5]

theorem op_field (h : Rel X S A w0 μ lam t H a w) {s : TypeId} {z : Operand} {f : Nat} (ho : o.op = .field s z f) {cs : Array Value} (hz : evv X t z = some (.agg cs)) {off : Nat} {ty : TypeId} (hf : fieldP X.P s f = some (off, ty))
    {v : Value} (hl : ldv X.P ty cs.toList off = some v) : OpOk X S A w0 μ lam H a w o t (.val v) H := by
  obtain ⟨cs', he, hc⟩ := h.evv hz
  obtain ⟨fields, fl, n, h1, h2, rfl, rfl, h5⟩ := fieldP_ok hf
  obtain ⟨v', h6, h7⟩ := part_ok hc hl w
  refine OpOk.value h (v := v') ?_ h7
  simp at h6
  simp [execOp, ho, he, Instr.field, run_under h1, h2, asAgg, h6]

theorem inB_ok {i : Int} {n : Nat} (h : inB i n = true) : 0 ≤ i ∧ i < (n : Int) := by simpa [inB] using h

theorem intOf_ok (h : Rel X S A w0 μ lam t H a w) {z : Operand} {i : Int} (hz : (evv X t z).bind intOf? = some i) : ∃ k, a.eval z = .int k i := by
  cases hv : evv X t z with
  | none => simp [hv] at hz
  | some v =>
    rw [hv] at hz
    cases v <;> simp [intOf?] at hz
    subst hz
    exact ⟨_, h.evv hv⟩

theorem op_indexAddr_arr (h : Rel X S A w0 μ lam t H a w) {ty : TypeId} {z ix : Operand} (ho : o.op = .indexAddr ty z ix) {len : Nat} {e : TypeId} (hu : X.P.underlying ty = some (.array len e)) {i : Int} (hi : (evv X t ix).bind intOf? = some i)
    {p : Pl} (hp : placeOf (ev X t z) = some p) {es : Nat} (hs : sizeP X.P e = some es) (hb : inB i len = true) : OpOk X S A w0 μ lam H a w o t (p.add (i.toNat * es)).tv H := by
  obtain ⟨he, hok⟩ := place_ok (h.ev z) hp
  obtain ⟨k, hk⟩ := intOf_ok h hi
  obtain ⟨b0, b1⟩ := inB_ok hb
  refine OpOk.value h (v := .pointer (some (plA μ lam (p.add (i.toNat * es))))) ?_ (Pl.tvr (Pl.add_ok hok _))
  rw [plA_add]
  simp [execOp, ho, he, hk, Instr.indexAt, asIntOf, run_under hu, Instr.sureAddr, run_sizeOf hs, b0, b1]

theorem op_indexAddr_sl (h : Rel X S A w0 μ lam t H a w) {ty : TypeId} {z ix : Operand} (ho : o.op = .indexAddr ty z ix) {e : TypeId} (hu : X.P.underlying ty = some (.slice e)) {i : Int} (hi : (evv X t ix).bind intOf? = some i)
    {b off n c : Nat} (hz : evv X t z = some (.slice (some ⟨b, off, none⟩) n c)) {es : Nat} (hs : sizeP X.P e = some es) (hb : inB i n = true) : OpOk X S A w0 μ lam H a w o t (.val (.pointer (some ⟨b, off + i.toNat * es, none⟩))) H := by
  obtain ⟨_, hlt, o', c', he, hcase⟩ := h.evv hz
  obtain ⟨k, hk⟩ := intOf_ok h hi
  obtain ⟨b0, b1⟩ := inB_ok hb
  have : o' = off := by
    rcases hcase with ⟨e1, _⟩ | ⟨e1, _⟩
    · exact e1
    · exfalso; omega
  subst this
  refine OpOk.value h (v := .pointer (some ⟨(μ b).blk, o' + i.toNat * es, none⟩)) ?_ ⟨rfl, hlt, rfl⟩
  simp [execOp, ho, he, hk, Instr.indexAt, asIntOf, run_under hu, run_sizeOf hs, b0, b1, Addr.add_lit]

theorem op_index_arr (h : Rel X S A w0 μ lam t H a w) {ty : TypeId} {z ix : Operand} (ho : o.op = .index ty z ix) {cs : Array Value} (hz : evv X t z = some (.agg cs)) {i : Int} (hi : (evv X t ix).bind intOf? = some i)
    {len : Nat} {e : TypeId} (hu : X.P.underlying ty = some (.array len e)) {es : Nat} (hs : sizeP X.P e = some es) (hb : inB i len = true) {v : Value} (hl : ldv X.P e cs.toList (i.toNat * es) = some v) : OpOk X S A w0 μ lam H a w o t (.val v) H := by
  obtain ⟨cs', he, hc⟩ := h.evv hz
  obtain ⟨k, hk⟩ := intOf_ok h hi
  obtain ⟨b0, b1⟩ := inB_ok hb
  obtain ⟨v', h6, h7⟩ := part_ok hc hl w
  refine OpOk.value h (v := v') ?_ h7
  simp at h6
  simp [execOp, ho, he, hk, Instr.index, asIntOf, run_under hu, run_sizeOf hs, b0, b1, h6]

theorem op_extract (h : Rel X S A w0 μ lam t H a w) {z : Operand} {i : Nat} (ho : o.op = .extract z i) {vs : Array Value} (hz : evv X t z = some (.tuple vs)) {v : Value} (hi : vs[i]? = some v) : OpOk X S A w0 μ lam H a w o t (.val v) H := by
  obtain ⟨vs', he, _, hc⟩ := h.evv hz
  obtain ⟨v', h1, h2⟩ := hc i v hi
  exact OpOk.value h (v := v') (by simp [execOp, ho, he, Instr.extract, h1]) (VT.of_any h2)
end
end Go.Proofs.Ytmgofjgfmcmceaa
end
