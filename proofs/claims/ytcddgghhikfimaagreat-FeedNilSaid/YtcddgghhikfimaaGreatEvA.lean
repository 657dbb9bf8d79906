/-
  A small evaluator over the loaded program; what it reads agrees with the machine.
-/
import GoSem.Dispatch
import GoSem.Core.Region
import GoSem.Machine.Frame
import Derived.Laws.Tables
import Derived.Laws.Sem
import Derived.RangeFuncLeaves
import Derived.OrdersIn
import Derived.Laws.Cells
import Derived.Laws.CopyRow
import Derived.Laws.Append
import Derived.Laws.Slices
import Derived.WalkKit
import Derived.Laws.IdiomStrings
namespace Go
namespace Ev
noncomputable section

/-- A table: keys are numbers, four branches a step. -/
inductive T4 (α : Type) where
  | e
  | n (v : Option α) (a b c d : T4 α)

def T4.val {α : Type} : T4 α → Option α
  | .e => none
  | .n v _ _ _ _ => v

def T4.get {α : Type} (t : T4 α) (k : Nat) : Option α :=
  T4.rec (motive := fun _ => Nat → Option α) (fun _ => none)
    (fun v _ _ _ _ ga gb gc gd k =>
      Bool.rec (motive := fun _ => Option α)
        (Bool.rec (motive := fun _ => Option α) (Bool.rec (motive := fun _ => Option α) (gd (Nat.div k 4)) (gc (Nat.div k 4)) (Nat.beq (Nat.mod k 4) 2))
          (Bool.rec (motive := fun _ => Option α) (gb (Nat.div k 4)) (ga (Nat.div k 4)) (Nat.beq (Nat.mod k 4) 0)) (Nat.ble (Nat.mod k 4) 1))
        v (Nat.beq k 0)) t k

/-- The four branches. -/
def T4.bs {α : Type} (t : T4 α) (f : Option α → T4 α → T4 α → T4 α → T4 α → T4 α) : T4 α :=
  T4.rec (motive := fun _ => T4 α) (f none .e .e .e .e) (fun v a b c d _ _ _ _ => f v a b c d) t

def T4.put {α : Type} (fuel : Nat) (x : Option α) (k : Nat) (t : T4 α) : T4 α :=
  Nat.rec (motive := fun _ => Nat → T4 α → T4 α) (fun _ t => t)
    (fun _ ih k t => t.bs fun v a b c d =>
      Bool.rec (motive := fun _ => T4 α)
        (Bool.rec (motive := fun _ => T4 α) (Bool.rec (motive := fun _ => T4 α) (.n v a b c (ih (Nat.div k 4) d)) (.n v a b (ih (Nat.div k 4) c) d) (Nat.beq (Nat.mod k 4) 2))
          (Bool.rec (motive := fun _ => T4 α) (.n v a (ih (Nat.div k 4) b) c d) (.n v (ih (Nat.div k 4) a) b c d) (Nat.beq (Nat.mod k 4) 0)) (Nat.ble (Nat.mod k 4) 1))
        (.n x a b c d) (Nat.beq k 0)) fuel k t

/-- The world of the evaluator: its blocks, and the next number. -/
structure Ent where
  key : Value
  val : Value
  born : Nat

inductive AObj where
  | cells (c : List Value) (elem : TypeId)
  | map (es : List Ent) (clock : Nat)
  | mapIter (m : Option Nat) (since : Nat) (seen : List Nat) (stepped : Nat)
  | strIter (s : ByteArray) (pos : Nat)
  | loop (st : LoopState) (pending : Option Code) (tmps : T4 Value) (n : Nat) (params : Array Tmp) (assign body : Code) (defers : Nat)
  | deferred

structure AW where
  heap : T4 AObj
  next : Nat

structure AFr where
  tmps : T4 Value
  n : Nat
  defers : List Nat

inductive AExit where
  | normal
  | exit (id : Nat)
  | ret

def fuel4 : Nat := 41
def top4 : Nat := 4 ^ 40
def elastic : Nat := 2 ^ 62
def isElastic (c : Nat) : Bool := Nat.ble (2 ^ 61) c

def AW.get (A : AW) (k : Nat) : Option AObj := A.heap.get k
def AW.set (A : AW) (k : Nat) (o : AObj) : AW := ⟨A.heap.put fuel4 (some o) k, A.next⟩
def AW.kill (A : AW) (k : Nat) : AW := ⟨A.heap.put fuel4 none k, A.next⟩
/-- A block at the next number. -/
def AW.new (A : AW) (o : AObj) : Option (Nat × AW) :=
  bif Nat.blt A.next top4 then some (A.next, ⟨A.heap.put fuel4 (some o) A.next, Nat.succ A.next⟩) else none

def AFr.tmp (fr : AFr) (t : Tmp) : Value := (fr.tmps.get t).getD undef
def AFr.put (fr : AFr) (dst : Option Tmp) (v : Value) : Option AFr :=
  match dst with
  | none => some fr
  | some d => AFr.rec (motive := fun _ => Option AFr) (fun tm n ds => Bool.rec (motive := fun _ => Option AFr) none (some ⟨tm.put fuel4 (some v) d, n, ds⟩) (Nat.blt d n)) fr
theorem AFr.put_none (fr : AFr) (v : Value) : fr.put none v = some fr := rfl
theorem AFr.put_some (fr : AFr) (d : Tmp) (v : Value) : fr.put (some d) v = bif Nat.blt d fr.n then some ⟨fr.tmps.put fuel4 (some v) d, fr.n, fr.defers⟩ else none := by
  obtain ⟨tm, n, ds⟩ := fr
  simp only [AFr.put]
  cases Nat.blt d n <;> rfl

mutual
/-- No address in it. -/
def vPlain : Value → Bool
  | .bool _ => true
  | .int _ _ => true
  | .float _ _ => true
  | .complex _ _ _ => true
  | .string _ => true
  | .pointer none => true
  | .pointer (some _) => false
  | .slice none l c => Nat.beq l 0 && Nat.beq c 0
  | .slice (some _) _ _ => false
  | .map none => true
  | .map (some _) => false
  | .chan _ => false
  | .func fn ⟨xs⟩ ⟨ys⟩ => (match fn with | .yield _ => false | _ => true) && vPlains xs && vPlains ys
  | .nilFunc => true
  | .iface _ v => vPlain v
  | .nilIface => true
  | .agg ⟨xs⟩ => vPlains xs
  | .tuple ⟨xs⟩ => vPlains xs
def vPlains : List Value → Bool
  | [] => true
  | v :: l => vPlain v && vPlains l
end

mutual
/-- The same (a 'yes' is sure). -/
def vEq : Value → Value → Bool
  | .bool a, .bool b => a == b
  | .int k a, .int j b => k == j && a == b
  | .string a, .string b => a.data.toList == b.data.toList
  | .pointer none, .pointer none => true
  | .pointer (some ⟨a, o, none⟩), .pointer (some ⟨b, p, none⟩) => Nat.beq a b && Nat.beq o p
  | .slice none l c, .slice none k d => Nat.beq l k && Nat.beq c d
  | .slice (some ⟨a, o, none⟩) l c, .slice (some ⟨b, p, none⟩) k d => Nat.beq a b && Nat.beq o p && Nat.beq l k && Nat.beq c d
  | .map none, .map none => true
  | .map (some a), .map (some b) => Nat.beq a b
  | .func f ⟨a⟩ ⟨b⟩, .func g ⟨c⟩ ⟨d⟩ => f == g && vEqs a c && vEqs b d
  | .nilFunc, .nilFunc => true
  | .iface t a, .iface u b => Nat.beq t u && vEq a b
  | .nilIface, .nilIface => true
  | .agg ⟨a⟩, .agg ⟨b⟩ => vEqs a b
  | .tuple ⟨a⟩, .tuple ⟨b⟩ => vEqs a b
  | _, _ => false
def vEqs : List Value → List Value → Bool
  | [], [] => true
  | a :: l, b :: k => vEq a b && vEqs l k
  | _, _ => false
end

/-- A program of operations that asks nothing of the world. -/
def semPure {α : Type} (P : Program) : Sem α → Option α
  | .pure a => some a
  | .program k => semPure P (k P)
  | _ => none

def pureValue (P : Program) (s : Sem Next) : Option Value :=
  match semPure P s with
  | some (.value v) => some v
  | _ => none

/-- An operand. -/
def opnd (fr : AFr) : Operand → Option Value
  | .tmp t => some (fr.tmp t)
  | .const v => bif vPlain v then some v else none
  | .global _ => none
  | .func f => some (.func (.func f) #[] #[])

def opnds (fr : AFr) : List Operand → Option (List Value)
  | [] => some []
  | x :: l => match opnd fr x with
    | none => none
    | some v => match opnds fr l with
      | none => none
      | some vs => some (v :: vs)

/-- The cells from a place on: n of them. -/
def cut (n : Nat) (o : Nat) (c : List Value) : Option (List Value) :=
  let r := (c.drop o).take n
  bif Nat.beq r.length n then some r else none

/-- A row laid over cells, from a place on. -/
def lay : List Value → Nat → List Value → Option (List Value)
  | vs, 0, c => match vs, c with
    | [], c => some c
    | _ :: _, [] => none
    | v :: vs, _ :: c => (match lay vs 0 c with | some r => some (v :: r) | none => none)
  | vs, o + 1, c => match c with
    | [] => none
    | x :: c => (match lay vs o c with | some r => some (x :: r) | none => none)

/-- A slice's element type, its cells and bytes. -/
def elemInfo (P : Program) (t : TypeId) : Option (TypeId × Nat × Nat) :=
  match P.underlying t with
  | some (.slice e) => (match P.info? e with | some i => some (e, i.size, i.bytes) | none => none)
  | _ => none

def isAggT (P : Program) (t : TypeId) : Option Bool :=
  match P.underlying t with
  | some (.struct _) => some true
  | some (.array _ _) => some true
  | some _ => some false
  | none => none

/-- How a variable is read: a row of n cells, or one. -/
def varInfo (P : Program) (t : TypeId) : Option (Bool × Nat) :=
  match isAggT P t, P.info? t with
  | some b, some i => some (b, i.size)
  | _, _ => none

def zeroOf (P : Program) (t : TypeId) : Option Value :=
  match P.info? t with
  | some i => match i.zero with
    | some v => bif vPlain v then some v else none
    | none => none
  | none => none

def loadAt (A : AW) (vi : Bool × Nat) (b o : Nat) : Option Value :=
  match A.get b with
  | some (.cells c _) =>
    match vi with
    | (true, n) => (match cut n o c with | some r => some (.agg ⟨r⟩) | none => none)
    | (false, _) => (c.drop o).head?
  | _ => none

def cellsOfV : Value → List Value
  | .agg ⟨cs⟩ => cs
  | v => [v]

def noAgg : Value → Bool
  | .agg _ => false
  | .tuple _ => false
  | _ => true

def storeAt (A : AW) (n : Nat) (b o : Nat) (v : Value) : Option AW :=
  match A.get b with
  | some (.cells c e) =>
    let vs := cellsOfV v
    bif Nat.beq vs.length n && vs.all noAgg then
      match lay vs o c with
      | some c' => some (A.set b (.cells c' e))
      | none => none
    else none
  | _ => none

def fieldInfo (P : Program) (s : TypeId) (f : Nat) : Option Nat :=
  match P.underlying s with
  | some (.struct fields) => match fields[f]? with
    | some fd => match P.info? fd.type with
      | some i => bif Nat.beq i.size 0 then none else some fd.offset
      | none => none
    | none => none
  | _ => none

/-- Of an aggregate's field: its place, how it is read. -/
def fieldPart (P : Program) (s : TypeId) (f : Nat) : Option (Nat × Bool × Nat) :=
  match P.underlying s with
  | some (.struct fields) => match fields[f]? with
    | some fd => match varInfo P fd.type with
      | some (g, n) => some (fd.offset, g, n)
      | none => none
    | none => none
  | _ => none

def partOf (cs : List Value) (off : Nat) : Bool × Nat → Option Value
  | (true, n) => some (.agg ⟨(cs.drop off).take n⟩)
  | (false, _) => (cs.drop off).head?

def intOf : Value → Option Int
  | .int _ n => some n
  | _ => none

def natOf : Value → Option Nat
  | .int _ (.ofNat n) => some n
  | _ => none

/-- The bounds of 's[lo:hi:max]' over 'len' and 'cap': where each lies in its range. -/
def bounds (len cap : Nat) (lo hi mx : Option Value) : Option (Nat × Nat × Nat) :=
  match (match mx with | some v => natOf v | none => some cap) with
  | none => none
  | some m => bif Nat.ble m cap then
      match (match hi, mx with | some v, _ => natOf v | none, none => some len | none, some _ => none) with
      | none => none
      | some h => bif Nat.ble h m then
          match (match lo with | some v => natOf v | none => some 0) with
          | none => none
          | some l => bif Nat.ble l h then some (l, h, m) else none
        else none
    else none

def shift (P : Program) (A : AW) (a : Addr) (cap : Nat) (size l h m : Nat) (full : Bool) : Option Value :=
  bif isElastic cap then
    -- nothing is known of the capacity: the bounds lie within the cells that are known, which are of the slice's size
    (match A.get a.block with
     | some (.cells c e) =>
       bif Nat.beq (P.cellsOf e) size && Nat.blt 0 size && Nat.ble (a.off + (bif full then m else h) * size) c.length then
         (bif full then (bif isElastic m then none else some (.slice (some (bif Nat.beq m l then a else ⟨a.block, a.off + l * size, none⟩)) (h - l) (m - l)))
          else bif isElastic (m - l) then some (.slice (some ⟨a.block, a.off + l * size, none⟩) (h - l) (m - l)) else none)
       else none
     | _ => none)
  else some (.slice (some (bif Nat.beq m l then a else ⟨a.block, a.off + l * size, none⟩)) (h - l) (m - l))

def partsOf (fr : AFr) : List (Nat × Operand) → Option (List (Nat × Value))
  | [] => some []
  | (i, x) :: l => match opnd fr x with
    | none => none
    | some v => match partsOf fr l with
      | none => none
      | some vs => some ((i, v) :: vs)

/-- n cells of zeros. -/
def zeroRow (P : Program) (e : TypeId) (n : Nat) : Option (List Value) :=
  match zeroOf P e with
  | some z =>
    let r := ((Array.range n).map (z.cells[· % z.cells.size]!)).toList
    bif vPlains r && Nat.blt 0 z.cells.size then some r else none
  | none => none

/-- What is laid by an operation that lays one new block and does nothing else, and its value. -/
def evA (P : Program) (fr : AFr) : Op → Option (AObj × (Nat → Value))
  | .alloc elem => match zeroOf P elem with
    | some z => some (.cells (cellsOfV z) elem, fun id => .pointer (some ⟨id, 0, none⟩))
    | none => none
  | .box elem x => match opnd fr x with
    | some v => some (.cells (cellsOfV v) elem, fun id => .pointer (some ⟨id, 0, none⟩))
    | none => none
  | .buildSlice t len parts =>
    match elemInfo P t with
    | some (e, size, _) =>
      bif Nat.ble (len * size) 65536 && Nat.blt 0 size then
        match zeroRow P e (len * size), partsOf fr parts.toList with
        | some z, some ps =>
          (match Instr.fill (fun i => some (i * size, size)) ⟨z⟩ ps with
           | some cs => some (.cells cs.toList e, fun id => .slice (some ⟨id, 0, none⟩) len len)
           | none => none)
        | _, _ => none
      else none
    | none => none
  | .makeMap _ none => some (.map [] 0, fun id => .map (some id))
  | .convert src dst x =>
    match P.underlying src, P.underlying dst, opnd fr x with
    | some .string, some (.slice e), some (.string s) =>
      (match P.underlying e with
      | some (.int .u8) => bif Nat.beq (P.cellsOf e) 1 then some (.cells (s.data.toList.map fun b => .int .u8 b.toNat) e, fun id => .slice (some ⟨id, 0, none⟩) s.size elastic) else none
      | _ => none)
    | _, _, _ => none
  | _ => none

def keysOf (es : List Ent) : List MapEntry := es.map fun e => { key := e.key, val := undef, born := e.born }

/-- Where a key stands in a map. -/
def findE (P : Program) (empty : Bool) (keyT : TypeId) (k : Value) (es : List Ent) : Option (Option Nat) :=
  bif vPlain k && es.all (fun e => vPlain e.key) then
    semPure P (do
      Instr.checkKey empty 10000 keyT k
      match ← Instr.findKey keyT k (keysOf es) with
      | some (i, _) => pure (some i)
      | none => pure none)
  else none

def mapT (P : Program) (t : TypeId) : Option (TypeId × TypeId) :=
  match P.underlying t with
  | some (.map k e) => some (k, e)
  | _ => none

/-- The bytes of a row of cells. -/
def bytesOf : List Value → Option (List UInt8)
  | [] => some []
  | .int .u8 (.ofNat n) :: l => bif Nat.blt n 256 then (match bytesOf l with | some r => some (UInt8.ofNat n :: r) | none => none) else none
  | _ => none

/-- Operations that read the world, or nothing: they leave it as it is. -/
def wrapF (k : IntKind) (n : Int) : Int :=
  match n with
  | .ofNat m =>
    (match k with
     | .i64 => bif Nat.blt m 9223372036854775808 then n else IntKind.wrap .i64 n
     | .u64 => bif Nat.blt m 18446744073709551616 then n else IntKind.wrap .u64 n
     | .u8 => .ofNat (Nat.mod m 256)
     | .u32 => .ofNat (Nat.mod m 4294967296)
     | k => IntKind.wrap k n)
  | n => IntKind.wrap k n

def kEq : IntKind → IntKind → Bool
  | .i8, .i8 => true | .i16, .i16 => true | .i32, .i32 => true | .i64, .i64 => true
  | .u8, .u8 => true | .u16, .u16 => true | .u32, .u32 => true | .u64, .u64 => true
  | _, _ => false

def intLt : Int → Int → Bool
  | .ofNat a, .ofNat b => Nat.blt a b
  | .ofNat _, .negSucc _ => false
  | .negSucc _, .ofNat _ => true
  | .negSucc a, .negSucc b => Nat.blt b a

def intEq : Int → Int → Bool
  | .ofNat a, .ofNat b => Nat.beq a b
  | .negSucc a, .negSucc b => Nat.beq a b
  | _, _ => false

/-- The commonest operations on integers. -/
def intBin (op : BinOp) (k : IntKind) (a b : Int) : Option Value :=
  match op with
  | .add => some (.int k (wrapF k (a + b)))
  | .sub => some (.int k (wrapF k (a - b)))
  | .mul => some (.int k (wrapF k (a * b)))
  | .eql => some (.bool (intEq a b))
  | .neq => some (.bool (!intEq a b))
  | .lss => some (.bool (intLt a b))
  | .leq => some (.bool (!intLt b a))
  | .gtr => some (.bool (intLt b a))
  | .geq => some (.bool (!intLt a b))
  | _ => none

/-- '==' where one side is nil. -/
def nilEq (P : Program) (t : TypeId) (a b : Value) : Option Bool :=
  match P.underlying t, a, b with
  | some (.pointer _), .pointer none, .pointer (some _) => some false
  | some (.pointer _), .pointer (some _), .pointer none => some false
  | some (.slice _), .slice none _ _, .slice (some _) _ _ => some false
  | some (.slice _), .slice (some _) _ _, .slice none _ _ => some false
  | some (.map _ _), .map none, .map (some _) => some false
  | some (.map _ _), .map (some _), .map none => some false
  | some (.func _ _ _), .nilFunc, .func _ _ _ => some false
  | some (.func _ _ _), .func _ _ _, .nilFunc => some false
  | _, _, _ => none

def plainOp (P : Program) (s : Sem Value) : Option Value :=
  match semPure P s with
  | some r => bif vPlain r then some r else none
  | none => none

def binV (P : Program) (op : BinOp) (t : TypeId) (x y : Operand) (a b : Value) : Option Value :=
  match a, b with
  | .int k m, .int j n =>
    (match bif kEq k j then intBin op k m n else none with
     | some v => some v
     | none => plainOp P (do eqGuard op t x y a b; binOp op t a b))
  | a, b =>
    bif vPlain a && vPlain b then plainOp P (do eqGuard op t x y a b; binOp op t a b) else
    match op with
    | .eql => (match nilEq P t a b with | some r => some (.bool r) | none => none)
    | .neq => (match nilEq P t a b with | some r => some (.bool (!r)) | none => none)
    | _ => none

def optOpnd (fr : AFr) : Option Operand → Option (Option Value)
  | none => some none
  | some x => match opnd fr x with | some v => some (some v) | none => none

def sliceV (P : Program) (A : AW) (addr : Bool) (t : TypeId) (x : Value) (lo hi mx : Option Value) : Option Value :=
  match P.underlying t, x with
  | some (.array n elem), .pointer (some a) =>
    bif addr && !isElastic n then
      (match bounds n n lo hi mx, P.info? elem with
       | some (l, h, m), some i => some (.slice (some (bif Nat.beq m l then a else ⟨a.block, a.off + l * i.size, none⟩)) (h - l) (m - l))
       | _, _ => none)
    else none
  | some .string, .string s =>
    (match mx with
     | some _ => none
     | none => (match bounds s.size s.size lo hi none with
        | some (l, h, _) => some (.string (s.extract l h))
        | none => none))
  | some (.slice elem), .slice none len cap =>
    (match bounds len cap lo hi mx, P.info? elem with
     | some (l, h, m), some _ => some (.slice none (h - l) (m - l))
     | _, _ => none)
  | some (.slice elem), .slice (some a) len cap =>
    (match bounds len cap lo hi mx, P.info? elem with
     | some (l, h, m), some i => shift P A a cap i.size l h m mx.isSome
     | _, _ => none)
  | _, _ => none

def evR (P : Program) (fr : AFr) (A : AW) (type : TypeId) : Op → Option Value
  | .move x => opnd fr x
  | .assign x => opnd fr x
  | .pick c a b => match opnd fr c with
    | some (.bool true) => (match opnd fr a, opnd fr b with | some v, some _ => some v | _, _ => none)
    | some (.bool false) => (match opnd fr a, opnd fr b with | some _, some v => some v | _, _ => none)
    | _ => none
  | .build t parts =>
    match partsOf fr parts.toList with
    | some ps => (match zeroOf P t, P.built t ps with
       | some _, some cs => some (.agg cs)
       | _, _ => none)
    | none => none
  | .load t x => match opnd fr x, varInfo P t with
    | some (.pointer (some ⟨b, o, none⟩)), some vi => loadAt A vi b o
    | _, _ => none
  | .nilCheck x => match opnd fr x with
    | some (.pointer (some a)) => some (.pointer (some a))
    | _ => none
  | .binOp op t x y _ => match opnd fr x, opnd fr y with
    | some a, some b => binV P op t x y a b
    | _, _ => none
  | .unOp op _ x => match opnd fr x with
    | some (.bool b) => (match op with | .not => some (.bool (!b)) | _ => none)
    | some v => bif vPlain v then plainOp P (Op.unary op v) else none
    | none => none
  | .convert src dst x =>
    match P.underlying src, P.underlying dst, opnd fr x with
    | some _, some (.int k), some (.int _ n) => some (.int k (wrapF k n))
    | some _, some .string, some (.string s) => some (.string s)
    | some (.slice e), some .string, some (.slice none _ _) => (match P.underlying e with | some (.int .u8) => some (.string .empty) | _ => none)
    | some (.slice e), some .string, some (.slice (some ⟨b, o, none⟩) len _) =>
      (match P.underlying e, A.get b with
       | some (.int .u8), some (.cells c _) => (match cut len o c with
          | some r => (match bytesOf r with | some l => some (.string ⟨⟨l⟩⟩) | none => none)
          | none => none)
       | _, _ => none)
    | _, _, _ => none
  | .sliceToArrayPointer arr x => match P.underlying arr, opnd fr x with
    | some (.array n _), some (.slice a len _) => bif Nat.blt 0 n && Nat.ble n len then some (.pointer a) else none
    | _, _ => none
  | .makeInterface t x => match P.underlying t, opnd fr x with
    | some (.interface _), _ => none
    | some _, some v => some (.iface t v)
    | _, _ => none
  | .makeFunc fn first captured => match opnds fr first.toList, opnds fr captured.toList with
    | some a, some b => (match fn with | .yield _ => none | fn => some (.func fn ⟨a⟩ ⟨b⟩))
    | _, _ => none
  | .slice t x lo hi mx =>
    match opnd fr x, optOpnd fr lo, optOpnd fr hi, optOpnd fr mx with
    | some v, some lo, some hi, some mx => sliceV P A true t v lo hi mx
    | _, _, _, _ => none
  | .fieldAddr s x f => match opnd fr x, fieldInfo P s f with
    | some (.pointer (some ⟨b, o, none⟩)), some off => some (.pointer (some ⟨b, o + off, none⟩))
    | _, _ => none
  | .field t x f => match opnd fr x, fieldPart P t f with
    | some (.agg ⟨cs⟩), some (off, gn) => partOf cs off gn
    | _, _ => none
  | .indexAddr t x ix => match opnd fr x, opnd fr ix with
    | some (.pointer (some ⟨b, o, none⟩)), some (.int _ (.ofNat i)) => (match P.underlying t with
      | some (.array n e) => bif Nat.blt i n then (match P.info? e with | some inf => some (.pointer (some ⟨b, o + i * inf.size, none⟩)) | none => none) else none
      | _ => none)
    | some (.slice (some ⟨b, o, none⟩) len _), some (.int _ (.ofNat i)) => (match P.underlying t with
      | some (.slice e) => bif Nat.blt i len then (match P.info? e with | some inf => some (.pointer (some ⟨b, o + i * inf.size, none⟩)) | none => none) else none
      | _ => none)
    | _, _ => none
  | .index t x ix => match opnd fr x, opnd fr ix with
    | some (.agg ⟨cs⟩), some (.int _ (.ofNat i)) => (match P.underlying t with
      | some (.array n e) => bif Nat.blt i n then (match varInfo P e with | some (g, s) => partOf cs (i * s) (g, s) | none => none) else none
      | _ => none)
    | some (.string s), some (.int _ (.ofNat i)) => (match P.underlying t with
      | some .string => (match s.data.toList[i]? with | some b => some (.int .u8 b.toNat) | none => none)
      | _ => none)
    | _, _ => none
  | .lookup t x ix ok => match mapT P t, opnd fr x, opnd fr ix with
    | some (kt, et), some (.map r), some k =>
      (match (match r with | none => some [] | some r => (match A.get r with | some (.map es _) => some es | _ => none)) with
       | none => none
       | some es => (match findE P es.isEmpty kt k es, zeroOf P et with
          | some (some i), some _ => (match es[i]? with
              | some e => some (bif ok then .tuple ⟨[e.val, .bool true]⟩ else e.val)
              | none => none)
          | some none, some z => some (bif ok then .tuple ⟨[z, .bool false]⟩ else z)
          | _, _ => none))
    | _, _, _ => none
  | .typeAssert x _ asserted ok => match P.underlying asserted, opnd fr x with
    | some (.interface _), _ => none
    | some _, some (.iface t v) => bif Nat.beq t asserted then some (bif ok then .tuple ⟨[v, .bool true]⟩ else v) else none
    | _, _ => none
  | .extract x i => match opnd fr x with
    | some (.tuple ⟨vs⟩) => vs[i]?
    | _ => none
  | .entry x => match opnd fr x with
    | some (.pointer (some ⟨r, 0, none⟩)) => (match A.get r with
      | some (.mapIter (some m) _ seen stepped) => (match seen.reverse.head?, A.get m with
          | some stamp, some (.map es clock) => bif Nat.beq clock stepped then
              (match es.find? (fun e => Nat.beq e.born stamp) with | some e => some (.tuple ⟨[e.key, e.val]⟩) | none => none) else none
          | _, _ => none)
      | _ => none)
    | _ => none
  | .call { callee := .builtin b, args, argTypes } =>
    (match b, argTypes.toList, opnds fr args.toList with
     | .len, t :: _, some (x :: _) => (match P.underlying t, x with
        | some .string, .string s => some (.int .i64 (.ofNat s.size))
        | some (.array n _), _ => some (.int .i64 (.ofNat n))
        | some (.slice _), .slice _ n _ => some (.int .i64 (.ofNat n))
        | some (.map _ _), .map none => some (.int .i64 (.ofNat 0))
        | some (.map _ _), .map (some r) => (match A.get r with | some (.map es _) => some (.int .i64 (.ofNat es.length)) | _ => none)
        | _, _ => none)
     | .cap, t :: _, some (x :: _) => (match P.underlying t, x with
        | some (.slice _), .slice _ _ c => bif isElastic c then none else some (.int .i64 (.ofNat c))
        | _, _ => none)
     | .max, _, some vs => bif vPlains vs then plainOp P (Builtin.max_ argTypes type ⟨vs⟩) else none
     | .min, _, some vs => bif vPlains vs then plainOp P (Builtin.min_ argTypes type ⟨vs⟩) else none
     | _, _, _ => none)
  | _ => none

/-- A row of cells of a slice, or a string's bytes. -/
def rowOf (A : AW) (size : Nat) : Value → Option (Nat × List Value)
  | .slice none n _ => bif Nat.beq n 0 then some (0, []) else none
  | .slice (some ⟨b, o, none⟩) n _ => (match A.get b with
    | some (.cells c _) => (match cut (n * size) o c with | some r => some (n, r) | none => none)
    | _ => none)
  | .string s => bif Nat.beq size 1 then some (s.size, s.data.toList.map fun b => .int .u8 b.toNat) else none
  | _ => none

/-- What is appended: a row, or so many zeros. -/
def newOf (P : Program) (A : AW) (elem : TypeId) (size : Nat) (zeros : Bool) (x : Value) : Option (Nat × List Value) :=
  bif zeros then
    (match x with
     | .int .i64 (.ofNat n) => bif Nat.ble n 65536 then (match zeroRow P elem (n * size) with | some r => some (n, r) | none => none) else none
     | _ => none)
  else rowOf A size x

/-- Cells of one value each, laid over others. -/
def layS (vs : List Value) (o : Nat) (c : List Value) : Option (List Value) :=
  bif vs.all noAgg then lay vs o c else none

def zeroSz (P : Program) (e : TypeId) (size : Nat) : Bool :=
  match zeroOf P e with
  | some z => Nat.beq z.cells.size size
  | none => false

def appendV (P : Program) (A : AW) (t : TypeId) (zeros : Bool) (s x : Value) : Option (Value × AW) :=
  match elemInfo P t with
  | none => none
  | some (elem, size, bytes) =>
    bif Nat.blt 0 size && Nat.blt 0 bytes && Nat.ble bytes 65536 && zeroSz P elem size then
      match newOf P A elem size zeros x with
      | none => none
      | some (n, new) =>
        bif Nat.beq n 0 then (match s with | .slice _ _ _ => some (s, A) | _ => none) else
        match s with
        | .slice none _ _ =>
          bif Nat.ble n 65536 then (match A.new (.cells new elem) with
             | some (id, A) => some (.slice (some ⟨id, 0, none⟩) n elastic, A)
             | none => none) else none
        | .slice (some ⟨b, o, none⟩) len cap =>
          (match A.get b with
           | some (.cells c e) =>
             bif isElastic cap then
               bif Nat.beq (P.cellsOf e) size then
                 -- within the cells that are known: in place
                 (bif Nat.ble (o + (len + n) * size) c.length then
                   (match layS new (o + len * size) c with
                    | some c' => some (.slice (some ⟨b, o, none⟩) (len + n) cap, A.set b (.cells c' e))
                    | none => none)
                  else bif Nat.ble (len + n) 65536 && new.all noAgg then
                   -- it may grow in place, or lie anew: the elder block is let go
                   (match cut (len * size) o c with
                    | some old => (match (A.kill b).new (.cells (old ++ new) elem) with
                        | some (id, A) => some (.slice (some ⟨id, 0, none⟩) (len + n) elastic, A)
                        | none => none)
                    | none => none)
                  else none)
               else none
             else bif Nat.ble (len + n) cap then
               (match layS new (o + len * size) c with
                | some c' => some (.slice (some ⟨b, o, none⟩) (len + n) cap, A.set b (.cells c' e))
                | none => none)
             else bif Nat.ble (len + n) 65536 then
               (match cut (len * size) o c with
                | some old => (match A.new (.cells (old ++ new) elem) with
                    | some (id, A) => some (.slice (some ⟨id, 0, none⟩) (len + n) elastic, A)
                    | none => none)
                | none => none)
             else none
           | _ => none)
        | _ => none
    else none

def natMin (a b : Nat) : Nat := bif Nat.ble a b then a else b

def copyV (P : Program) (A : AW) (t : TypeId) (d x : Value) : Option (Value × AW) :=
  match elemInfo P t with
  | none => none
  | some (_, size, _) =>
    match rowOf A size x with
    | none => none
    | some (n, new) =>
      match d with
      | .slice none len _ => bif Nat.beq len 0 then some (.int .i64 (.ofNat 0), A) else none
      | .slice (some ⟨b, o, none⟩) len _ =>
        let k := natMin n len
        (match A.get b with
         | some (.cells c e) => (match layS (new.take (k * size)) o c with
            | some c' => some (.int .i64 (.ofNat k), A.set b (.cells c' e))
            | none => none)
         | _ => none)
      | _ => none

def upd (i : Nat) (f : Ent → Ent) : List Ent → List Ent
  | [] => []
  | e :: l => match i with | 0 => f e :: l | i + 1 => e :: upd i f l

/-- Operations that turn the world (no calls of Go functions). -/
def evW (P : Program) (fr : AFr) (A : AW) (_type : TypeId) : Op → Option (Value × AW)
  | .store t x y => match opnd fr x, opnd fr y, P.info? t with
    | some (.pointer (some ⟨b, o, none⟩)), some v, some i => (match storeAt A i.size b o v with | some A => some (undef, A) | none => none)
    | _, _, _ => none
  | .makeSlice t l c => match elemInfo P t, opnd fr l, opnd fr c with
    | some (e, size, bytes), some (.int _ (.ofNat l)), some (.int _ (.ofNat c)) =>
      bif Nat.ble l c && Nat.ble c 65536 && Nat.ble bytes 65536 then
        (match zeroRow P e (c * size) with
         | some z => (match A.new (.cells z e) with
              | some (id, A) => some (.slice (some ⟨id, 0, none⟩) l c, A)
              | none => none)
         | none => none)
      else none
    | _, _, _ => none
  | .convert src dst x => match P.underlying src, opnd fr x with
    | some (.slice e), some (.slice (some ⟨b, o, none⟩) l c) => (match P.underlying e, A.get b with
      | some (.int .u8), some (.cells _ _) => bif Nat.beq src dst && Nat.blt 0 l then some (.slice (some ⟨b, o, none⟩) l c, A) else none
      | _, _ => none)
    | _, _ => none
  | .mapUpdate t m k x => evIns t m k x
  | .insert t m k x => evIns t m k x
  | .range t x => match P.underlying t, opnd fr x with
    | some .string, some (.string s) => (match A.new (.strIter s 0) with | some (id, A) => some (.pointer (some ⟨id, 0, none⟩), A) | none => none)
    | some (.map _ _), some (.map none) => (match A.new (.mapIter none 0 [] 0) with | some (id, A) => some (.pointer (some ⟨id, 0, none⟩), A) | none => none)
    | some (.map _ _), some (.map (some m)) => (match A.get m with
      | some (.map _ clock) => (match A.new (.mapIter (some m) clock [] clock) with | some (id, A) => some (.pointer (some ⟨id, 0, none⟩), A) | none => none)
      | _ => none)
    | _, _ => none
  | .next x isString => match opnd fr x with
    | some (.pointer (some ⟨r, 0, none⟩)) => (match A.get r, isString with
      | some (.mapIter none _ _ _), false => some (.tuple ⟨[.bool false]⟩, A)
      | some (.mapIter (some m) since seen last), false => (match A.get m with
        | some (.map es clock) =>
          bif !seen.isEmpty && !es.isEmpty && es.all (fun e => Nat.ble last e.born) then none else
          let left := es.filter fun e => !seen.any (Nat.beq e.born)
          bif left.all (fun e => Nat.blt e.born since) then
            (match left with
             | [] => some (.tuple ⟨[.bool false]⟩, A)
             | [e] => some (.tuple ⟨[.bool true, e.key, e.val]⟩, A.set r (.mapIter (some m) since (seen ++ [e.born]) clock))
             | _ => none)
          else none
        | _ => none)
      | some (.strIter s pos), true =>
        bif Nat.blt pos s.size then
          (match Utf8.decode s pos with
           | (c, width) => some (.tuple ⟨[.bool true, .int .i64 (.ofNat pos), .int .i32 c]⟩, A.set r (.strIter s (pos + width))))
        else some (.tuple ⟨[.bool false]⟩, A)
      | _, _ => none)
    | _ => none
  | .call { callee := .builtin b, args, argTypes } =>
    (match b, argTypes.toList, opnds fr args.toList with
     | .append, t :: t2 :: _, some (s :: x :: _) => (match P.underlying t2 with
        | some (.int _) => appendV P A t true s x
        | some _ => appendV P A t false s x
        | none => none)
     | .copy, t :: _, some (d :: x :: _) => copyV P A t d x
     | .clear, t :: _, some (x :: _) => (match elemInfo P t, x with
        | some _, .slice none _ _ => some (.tuple ⟨[]⟩, A)
        | some (e, size, _), .slice (some ⟨b, o, none⟩) n _ => bif Nat.beq n 0 then some (.tuple ⟨[]⟩, A) else
          (match zeroRow P e (n * size), A.get b with
           | some z, some (.cells c el) => bif zeroSz P e size then
               (match layS z o c with
                | some c' => some (.tuple ⟨[]⟩, A.set b (.cells c' el))
                | none => none) else none
           | _, _ => none)
        | _, _ => none)
     | .delete, t :: _, some (m :: k :: _) => (match mapT P t, m with
        | some (kt, _), .map none => (match findE P true kt k [] with | some _ => some (.tuple ⟨[]⟩, A) | none => none)
        | some (kt, _), .map (some r) => (match A.get r with
           | some (.map es clock) => (match findE P es.isEmpty kt k es with
              | some (some i) => some (.tuple ⟨[]⟩, A.set r (.map (es.eraseIdx i) clock))
              | some none => some (.tuple ⟨[]⟩, A)
              | none => none)
           | _ => none)
        | _, _ => none)
     | _, _, _ => none)
  | _ => none
where
  evIns (t : TypeId) (m k x : Operand) : Option (Value × AW) :=
    match mapT P t, opnd fr m, opnd fr k, opnd fr x with
    | some (kt, _), some (.map (some r)), some k, some v => (match A.get r with
      | some (.map es clock) => (match findE P false kt k es with
         | some (some i) => (match es[i]? with
            | some e => bif Instr.sameBits 10000 e.key k then some (undef, A.set r (.map (upd i (fun e => ⟨k, v, e.born⟩) es) clock)) else none
            | none => none)
         | some none => some (undef, A.set r (.map (es ++ [⟨k, v, clock⟩]) (Nat.succ clock)))
         | none => none)
      | _ => none)
    | _, _, _, _ => none

/-- The extern functions that are known. -/
inductive ExtK where
  | clone
  | add64

def evExt (k : ExtK) (args : List Value) (A : AW) : Option (Value × AW) :=
  match k with
  | .clone =>
    (match args with
     | [.iface t (.map (some r))] => (match A.get r with
       | some (.map es clock) => (match A.new (.map es clock) with
          | some (id, A) => some (.iface t (.map (some id)), A)
          | none => none)
       | _ => none)
     | _ => none)
  | .add64 =>
    (match args with
     | [.int .u64 (.ofNat x), .int .u64 (.ofNat y), .int .u64 (.ofNat c)] =>
       bif Nat.ble c 1 then some (.tuple ⟨[.int .u64 (.ofNat (Nat.mod (x + y + c) 18446744073709551616)), .int .u64 (.ofNat (Nat.div (x + y + c) 18446744073709551616))]⟩, A) else none
     | _ => none)

/-- Has it a body, and its number of temporaries; an extern. -/
inductive FnKind where
  | body (c : Code) (ntmps : Nat) (results : List ResultVar)
  | ext

def fnInfo (P : Program) (f : FuncId) : Option FnKind :=
  match P.funcs[f]? with
  | none => none
  | some fn =>
    bif fn.name == "runtime.NumGoroutine" then none else
    match fn.body with
    | some c => some (.body c fn.ntmps fn.results.toList)
    | none => some .ext

/-- What is known of the program's functions: externs; calls whose outcome is known. -/
structure Env where
  ext : FuncId → Option ExtK
  ov : FuncId → List Value → AW → Option (Option (Value × AW))

structure Fns where
  code : Option Nat → Code → AFr → AW → Option (AExit × AFr × AW)
  call : FuncId → List Value → AW → Option (Value × AW)

def layTmps : List Value → Nat → T4 Value → T4 Value
  | [], _, t => t
  | v :: l, i, t => layTmps l (Nat.succ i) (t.put fuel4 (some v) i)

def zipTmps : List Tmp → List Value → AFr → Option AFr
  | [], [], fr => some fr
  | t :: ts, v :: vs, fr => (match fr.put (some t) v with | some fr => zipTmps ts vs fr | none => none)
  | _, _, _ => none

def resultsOf (P : Program) (fr : AFr) (A : AW) : List ResultVar → Option (List Value)
  | [] => some []
  | .tmp t :: l => (match resultsOf P fr A l with | some r => some (fr.tmp t :: r) | none => none)
  | .cell a t :: l => (match fr.tmp a, varInfo P t with
    | .pointer (some ⟨b, o, none⟩), some vi => (match loadAt A vi b o, resultsOf P fr A l with
      | some v, some r => some (v :: r)
      | _, _ => none)
    | _, _ => none)

def oneOrTuple : List Value → Value
  | [v] => v
  | vs => .tuple ⟨vs⟩

/-- The marks of a function's loops over functions, at its end. -/
def takeMarks : List Nat → AW → Option AW
  | [], A => some A
  | d :: l, A => (match A.get d with | some .deferred => takeMarks l (A.kill d) | _ => none)

def evRound (ih : Fns) (l : Nat) (args : List Value) (A : AW) : Option (Value × AW) :=
  match A.get l with
  | some (.loop _ _ tmps n params assign body _) =>
    (match zipTmps params.toList args ⟨tmps, n, []⟩ with
     | none => none
     | some fr => match ih.code (some l) assign fr A with
       | some (.normal, fr1, A1) => (match A1.get l with
         | some (.loop .ready pend tm n' ps as bo df) =>
           (match ih.code (some l) body fr1 (A1.set l (.loop .busy pend tm n' ps as bo df)) with
            | some (e, _, A2) => (match A2.get l with
               | some (.loop _ _ tm n' ps as bo df) => (match e with
                  | .normal => some (.bool true, A2.set l (.loop .ready none tm n' ps as bo df))
                  | .ret => some (.bool false, A2.set l (.loop .done (some .ret) tm n' ps as bo df))
                  | .exit id => some (.bool false, A2.set l (.loop .done (some (.exit id)) tm n' ps as bo df)))
               | _ => none)
            | none => none)
         | _ => none)
       | _ => none)
  | _ => none

def evFunc (P : Program) (E : Env) (ih : Fns) (f : FuncId) (args : List Value) (A : AW) : Option (Value × AW) :=
  match fnInfo P f with
  | some (.body _ _ _) => ih.call f args A
  | some .ext => (match E.ext f with | some k => evExt k args A | none => none)
  | none => none

def evFn (P : Program) (E : Env) (ih : Fns) (fn : Fn) (args cap : List Value) (A : AW) : Option (Value × AW) :=
  match fn with
  | .func f => evFunc P E ih f (args ++ cap) A
  | .yield l => evRound ih l args A
  | _ => none

/-- An operation that may call. -/
def evC (P : Program) (E : Env) (ih : Fns) (fr : AFr) (A : AW) : Op → Option (Value × AW)
  | .call { callee := .value f, args, .. } => (match opnd fr f, opnds fr args.toList with
    | some (.func fn ⟨first⟩ ⟨cap⟩), some vs => evFn P E ih fn (first ++ vs) cap A
    | _, _ => none)
  | _ => none

/-- Of which kind an operation is: 0 it reads nothing of the world; 1 it reads; 2 it lays one block; 3 it turns the world; 4 it calls. -/
def kind (P : Program) : Op → Nat
  | .load _ _ => 1 | .lookup .. => 1 | .entry _ => 1
  | .slice .. => 1
  | .convert src dst _ => match P.underlying src, P.underlying dst with
    | some .string, some (.slice _) => 2
    | some (.slice _), some .string => 1
    | some (.slice _), some (.slice _) => 3
    | _, _ => 0
  | .alloc _ => 2 | .box _ _ => 2 | .buildSlice .. => 2 | .makeMap _ none => 2
  | .store .. => 3 | .makeSlice .. => 3 | .mapUpdate .. => 3 | .insert .. => 3 | .range .. => 3 | .next .. => 3
  | .call { callee := .builtin b, .. } => (match b with
     | .len => 1 | .cap => 0 | .max => 0 | .min => 0
     | _ => 3)
  | .call { callee := .value _, .. } => 4
  | _ => 0

def evOp (P : Program) (E : Env) (ih : Fns) (fr : AFr) (A : AW) (o : Oper) : Option (Value × AW) :=
  match kind P o.op with
  | 0 | 1 => (match evR P fr A o.type o.op with | some v => some (v, A) | none => none)
  | 2 => (match evA P fr o.op with
     | some (ob, v) => (match A.new ob with | some (id, A) => some (v id, A) | none => none)
     | none => none)
  | 3 => evW P fr A o.type o.op
  | _ => evC P E ih fr A o.op

def wantedA (ops : Array Oper) (fr : AFr) (o : Oper) : Bool :=
  match o.guard with
  | none => true
  | some (j, want) => (match ((ops[j]?).bind (·.dst)) with
    | some d => (match fr.tmps.get d with | some (.bool b) => b == want | _ => false)
    | none => false)

def evOps (P : Program) (E : Env) (ih : Fns) (ops : Array Oper) : List Oper → AFr → AW → Option (AFr × AW)
  | [], fr, A => some (fr, A)
  | o :: l, fr, A =>
    bif wantedA ops fr o then
      (match evOp P E ih fr A o with
       | some (v, A) => (match fr.put o.dst v with | some fr => evOps P E ih ops l fr A | none => none)
       | none => none)
    else (match fr.put o.dst undef with | some fr => evOps P E ih ops l fr A | none => none)

/-! Regions that draw their order. -/

/-- Which operations an operation stands behind: one bit each. -/
def befStep (M : List Nat) (s : Nat) (e : Edge) : Nat := bif Region.binds .any e then (s ||| (2 ^ e.on)) ||| (M.getD e.on 0) else s
def befOf (M : List Nat) (o : Oper) : Nat := o.after.toList.foldl (befStep M) 0
def masks : List Oper → List Nat → List Nat
  | [], M => M
  | o :: l, M => masks l (M ++ [befOf M o])
def befsOK (M : List Nat) : List Oper → List Nat → Bool
  | o :: l, b :: r => Nat.beq b (befOf M o) && befsOK M l r
  | [], [] => true
  | _, _ => false

def sameTmp : Option Tmp → Option Tmp → Bool
  | some a, some b => Nat.beq a b
  | _, _ => false
def looksL (ops : Array Oper) (o : Oper) : List Tmp :=
  (o.op.operands.toList.filterMap fun | .tmp t => some t | _ => none) ++
  (match o.guard with
   | some (g, _) => ((ops[g]?).bind (·.dst)).toList
   | none => [])
/-- Two operations have no temporary between them. -/
def apartA (x y : Option Tmp × List Tmp) : Bool :=
  (match x.1 with
   | some d => !(y.2.any (Nat.beq d)) && !(sameTmp y.1 (some d))
   | none => true) &&
  (match y.1 with
   | some d => !(x.2.any (Nat.beq d))
   | none => true)

structure RI where
  heavy : Bool
  tm : Option Tmp × List Tmp
  bef : Nat

def pairOK (x y : RI) (i : Nat) : Bool := Nat.testBit y.bef i || (apartA x.tm y.tm && !(x.heavy && y.heavy))
def againstAll (y : RI) : List RI → Nat → Bool
  | [], _ => true
  | x :: l, i => pairOK x y i && againstAll y l (Nat.succ i)
def pairsOK : List RI → List RI → Bool
  | [], _ => true
  | y :: l, done => againstAll y done 0 && pairsOK l (done ++ [y])
/-- The edges lead back. -/
def backOK : List Oper → Nat → Bool
  | [], _ => true
  | o :: l, j => o.after.toList.all (fun e => !Region.binds .any e || Nat.blt e.on j) && backOK l (Nat.succ j)

def isHeavy (P : Program) (op : Op) : Bool := Nat.ble 3 (kind P op)
def infoOf (P : Program) (ops : Array Oper) : List Oper → List Nat → List RI
  | o :: l, b :: M => ⟨isHeavy P o.op, (o.dst, looksL ops o), b⟩ :: infoOf P ops l M
  | _, _ => []
def regionInfo (P : Program) (ops : Array Oper) : Option (List RI) :=
  let M := masks ops.toList []
  let I := infoOf P ops ops.toList M
  bif befsOK M ops.toList M && backOK ops.toList 0 && pairsOK I [] then some I else none

/-- Only what an operation looks at. -/
def maskT (fr : AFr) : List Operand → T4 Value → T4 Value
  | [], t => t
  | x :: l, t => maskT fr l (match x with | .tmp d => (bif Nat.blt d fr.n then t.put fuel4 (fr.tmps.get d) d else t) | _ => t)
def maskFr (fr : AFr) (o : Oper) : AFr := ⟨maskT fr o.op.operands.toList .e, fr.n, fr.defers⟩

structure TRec where
  o : Oper
  w : Bool
  full : AFr
  fr : AFr
  A : AW
  v : Value
  ob : AObj

def obEq : AObj → AObj → Bool
  | .cells c e, .cells d f => vEqs c d && Nat.beq e f
  | .map [] n, .map [] k => Nat.beq n k
  | _, _ => false

/-- One operation; what it lays lies at the number kept for it. -/
def evStep (P : Program) (E : Env) (ih : Fns) (fr : AFr) (A : AW) (o : Oper) (id : Nat) : Option (Value × AW × AObj) :=
  bif Nat.beq (kind P o.op) 2 then
    (match evA P fr o.op with
     | some (ob, vf) => some (vf id, (⟨A.heap.put fuel4 (some ob) id, A.next⟩ : AW), ob)
     | none => none)
  else
    (match evOp P E ih fr A o with
     | some (v, A') => some (v, A', AObj.deferred)
     | none => none)

/-- The operations in the order of the text; what is laid lies at a number kept for it. -/
def evTrace (P : Program) (E : Env) (ih : Fns) (ops : Array Oper) : List Oper → Nat → AFr → AW → Option (List TRec × AFr × AW)
  | [], _, fr, A => some ([], fr, A)
  | o :: l, id, fr, A =>
    bif wantedA ops fr o then
      (match evStep P E ih (maskFr fr o) A o id with
       | some (v, A', ob) => (match fr.put o.dst v with
          | some fr' => (match evTrace P E ih ops l (Nat.succ id) fr' A' with
             | some (rs, r) => some (⟨o, true, fr, maskFr fr o, A, v, ob⟩ :: rs, r)
             | none => none)
          | none => none)
       | none => none)
    else (match fr.put o.dst undef with
      | some fr' => (match evTrace P E ih ops l (Nat.succ id) fr' A with
         | some (rs, r) => some (⟨o, false, fr, fr, A, undef, .deferred⟩ :: rs, r)
         | none => none)
      | none => none)

/-- The worlds ahead of each operation that may turn the world, and the last. -/
def stagesOf : List TRec → List RI → AW → List AW
  | r :: rs, x :: I, A => bif x.heavy then r.A :: stagesOf rs I A else stagesOf rs I A
  | _, _, A => [A]

def countB : List Bool → Nat
  | [] => 0
  | b :: l => bif b then Nat.succ (countB l) else countB l

/-- Is an operation that reads told the same at each stage at which it may come up; does what was laid lie there? -/
def stageOK (P : Program) (r : TRec) (id : Nat) (lo hi c : Nat) : List AW → Nat → Bool
  | [], _ => true
  | A :: l, j =>
    (bif Nat.beq (kind P r.o.op) 1 then
       (bif Nat.ble lo j && Nat.ble j hi then (match evR P r.fr A r.o.type r.o.op with | some v => vEq v r.v | none => false) else true)
     else
       (bif Nat.blt j c then (match A.get id with | none => true | some _ => false)
        else bif Nat.ble j hi then (match A.get id with | some ob => obEq ob r.ob | none => false) else true)) && stageOK P r id lo hi c l (Nat.succ j)

/-- The operations that may turn the world: their numbers, and what they stand behind. -/
def hvOf : List RI → Nat → List (Nat × Nat)
  | x :: I, i => bif x.heavy then (i, x.bef) :: hvOf I (Nat.succ i) else hvOf I (Nat.succ i)
  | [], _ => []
/-- Of the operations that turn the world: how many stand ahead of number i; how many do not stand behind it. -/
def loOf (bef : Nat) (hv : List (Nat × Nat)) : Nat := countB (hv.map fun h => Nat.testBit bef h.1)
def hiOf (i : Nat) (hv : List (Nat × Nat)) : Nat := countB (hv.map fun h => !Nat.testBit h.2 i)

def needs (P : Program) (r : TRec) : Bool := r.w && (Nat.beq (kind P r.o.op) 1 || Nat.beq (kind P r.o.op) 2)

def checkAll (P : Program) (stages : List AW) (hv : List (Nat × Nat)) : List TRec → List RI → Nat → Nat → Nat → Bool
  | r :: rs, x :: I, i, id, c =>
    (bif needs P r then stageOK P r id (loOf x.bef hv) (hiOf i hv) c stages 0 else true) &&
      checkAll P stages hv rs I (Nat.succ i) (Nat.succ id) (bif x.heavy then Nat.succ c else c)
  | [], [], _, _, _ => true
  | _, _, _, _, _ => false

def evDraw (P : Program) (E : Env) (ih : Fns) (ops : Array Oper) (fr : AFr) (A : AW) : Option (AFr × AW) :=
  match regionInfo P ops with
  | none => none
  | some I =>
    bif Nat.ble (A.next + ops.size) top4 then
      match evTrace P E ih ops ops.toList A.next fr ⟨A.heap, A.next + ops.size⟩ with
      | none => none
      | some (rs, fr', A') =>
        bif checkAll P (stagesOf rs I A') (hvOf I 0) rs I 0 A.next 0 then some (fr', A') else none
    else none

def evCode (P : Program) (E : Env) (ih : Fns) (ro : Option Nat) (c : Code) (fr : AFr) (A : AW) : Option (AExit × AFr × AW) :=
  match c with
  | .skip => some (.normal, fr, A)
  | .label _ => some (.normal, fr, A)
  | .region _ ops false => (match evOps P E ih ops ops.toList fr A with | some (fr, A) => some (.normal, fr, A) | none => none)
  | .region _ ops true => (match evDraw P E ih ops fr A with | some (fr, A) => some (.normal, fr, A) | none => none)
  | .seq a b => (match ih.code ro a fr A with
    | some (.normal, fr, A) => ih.code ro b fr A
    | r => r)
  | .cond c x y => (match opnd fr c with
    | some (.bool true) => ih.code ro x fr A
    | some (.bool false) => ih.code ro y fr A
    | _ => none)
  | .block id b => (match ih.code ro b fr A with
    | some (.exit id', fr, A) => bif Nat.beq id' id then some (.normal, fr, A) else some (.exit id', fr, A)
    | r => r)
  | .loop b => (match ih.code ro b fr A with
    | some (.normal, fr, A) => ih.code ro (.loop b) fr A
    | r => r)
  | .scope b => ih.code ro b fr A
  | .exit id => some (.exit id, fr, A)
  | .ret => some (.ret, fr, A)
  | .rangeFunc f params assign body =>
    (match opnd fr f with
     | some (.func (.func g) ⟨first⟩ ⟨cap⟩) =>
       (match (match ro with
          | none => (match A.new .deferred with | some (d, A) => some (d, (⟨fr.tmps, fr.n, d :: fr.defers⟩ : AFr), A) | none => none)
          | some l0 => (match A.get l0 with | some (.loop _ _ _ _ _ _ _ d) => some (d, fr, A) | _ => none)) with
        | none => none
        | some (d, fr2, A) =>
          match A.new (.loop .ready none fr.tmps fr.n params assign body d) with
          | none => none
          | some (l, A) => (match fnInfo P g with
            | some (.body _ _ _) => (match ih.call g (first ++ [.func (.yield l) #[] #[]] ++ cap) A with
              | none => none
              | some (_, A) => (match A.get l with
                | some (.loop st pend tm n' ps as bo df) => (match st with
                   | .busy => none
                   | _ => (match pend with
                      | none => some (.normal, fr2, A.set l (.loop .exhausted pend tm n' ps as bo df))
                      | some c => ih.code ro c fr2 (A.set l (.loop .exhausted pend tm n' ps as bo df))))
                | _ => none))
            | _ => none))
     | _ => none)
  | _ => none

def evCall (P : Program) (E : Env) (ih : Fns) (f : FuncId) (args : List Value) (A : AW) : Option (Value × AW) :=
  match E.ov f args A with
  | some r => r
  | none => match fnInfo P f with
    | some (.body c ntmps results) =>
      let n := bif Nat.ble ntmps args.length then args.length else ntmps
      bif Nat.ble n top4 then
      (match ih.code none c ⟨layTmps args 0 .e, n, []⟩ A with
       | some (.exit _, _, _) => none
       | some (_, fr, A) => (match takeMarks fr.defers A with
          | some A => (match resultsOf P fr A results with
             | some vs => some (oneOrTuple vs, A)
             | none => none)
          | none => none)
       | none => none) else none
    | _ => none

def fnsZero : Fns := ⟨fun _ _ _ _ => none, fun _ _ _ => none⟩

def ev (P : Program) (E : Env) (n : Nat) : Fns :=
  Nat.rec (motive := fun _ => Fns) fnsZero (fun _ ih => ⟨evCode P E ih, evCall P E ih⟩) n

end
end Ev
end Go
namespace Go
namespace Ev

theorem T4.get_e {α : Type} (k : Nat) : (T4.e : T4 α).get k = none := rfl
theorem four_b {β : Type} (c0 c1 c2 c3 : Bool) (v a b c d : β) :
    (Bool.rec (motive := fun _ => β) (Bool.rec (motive := fun _ => β) (Bool.rec (motive := fun _ => β) d c c3) (Bool.rec (motive := fun _ => β) b a c2) c1) v c0) = (bif c0 then v else bif c1 then (bif c2 then a else b) else (bif c3 then c else d)) := by
  cases c0 <;> cases c1 <;> cases c2 <;> cases c3 <;> rfl
theorem T4.get_n {α : Type} (v : Option α) (a b c d : T4 α) (k : Nat) : (T4.n v a b c d).get k =
    if k = 0 then v else if k % 4 = 0 then a.get (k / 4) else if k % 4 = 1 then b.get (k / 4) else if k % 4 = 2 then c.get (k / 4) else d.get (k / 4) := by
  refine (four_b (Nat.beq k 0) (Nat.ble (k % 4) 1) (Nat.beq (k % 4) 0) (Nat.beq (k % 4) 2) v (a.get (k / 4)) (b.get (k / 4)) (c.get (k / 4)) (d.get (k / 4))).trans ?_
  have hb : ∀ x y, Nat.beq x y = decide (x = y) := fun x y => by
    rw [Bool.eq_iff_iff]; simp
  have hl : ∀ x y, Nat.ble x y = decide (x ≤ y) := fun x y => by
    rw [Bool.eq_iff_iff]; simp
  rw [hb, hb, hb, hl]
  by_cases h0 : k = 0
  · simp [h0]
  · simp only [h0, decide_false, cond_false, if_false]
    have h4 : k % 4 < 4 := Nat.mod_lt _ (by decide)
    by_cases h1 : k % 4 = 0
    · simp [h1]
    · by_cases h2 : k % 4 = 1
      · simp [h2]
      · by_cases h3 : k % 4 = 2
        · simp [h3]
        · have : ¬ k % 4 ≤ 1 := by omega
          simp [h1, h2, h3, this]

theorem T4.put_succ {α : Type} (f : Nat) (x : Option α) (k : Nat) (t : T4 α) : T4.put (f + 1) x k t =
    t.bs fun v a b c d => if k = 0 then .n x a b c d else if k % 4 = 0 then .n v (T4.put f x (k / 4) a) b c d else if k % 4 = 1 then .n v a (T4.put f x (k / 4) b) c d else if k % 4 = 2 then .n v a b (T4.put f x (k / 4) c) d else .n v a b c (T4.put f x (k / 4) d) := by
  have hb : ∀ x y, Nat.beq x y = decide (x = y) := fun x y => by
    rw [Bool.eq_iff_iff]; simp
  have hl : ∀ x y, Nat.ble x y = decide (x ≤ y) := fun x y => by
    rw [Bool.eq_iff_iff]; simp
  refine Eq.trans (b := t.bs fun v a b c d => Bool.rec (motive := fun _ => T4 α)
        (Bool.rec (motive := fun _ => T4 α) (Bool.rec (motive := fun _ => T4 α) (.n v a b c (T4.put f x (Nat.div k 4) d)) (.n v a b (T4.put f x (Nat.div k 4) c) d) (Nat.beq (Nat.mod k 4) 2))
          (Bool.rec (motive := fun _ => T4 α) (.n v a (T4.put f x (Nat.div k 4) b) c d) (.n v (T4.put f x (Nat.div k 4) a) b c d) (Nat.beq (Nat.mod k 4) 0)) (Nat.ble (Nat.mod k 4) 1))
        (.n x a b c d) (Nat.beq k 0)) rfl ?_
  refine congrArg t.bs (funext fun v => funext fun a => funext fun b => funext fun c => funext fun d => ?_)
  refine (four_b (Nat.beq k 0) (Nat.ble (k % 4) 1) (Nat.beq (k % 4) 0) (Nat.beq (k % 4) 2) (T4.n x a b c d) (.n v (T4.put f x (k / 4) a) b c d) (.n v a (T4.put f x (k / 4) b) c d) (.n v a b (T4.put f x (k / 4) c) d) (.n v a b c (T4.put f x (k / 4) d))).trans ?_
  rw [hb, hb, hb, hl]
  by_cases h0 : k = 0
  · simp [h0]
  · simp only [h0, decide_false, cond_false, if_false]
    have h4 : k % 4 < 4 := Nat.mod_lt _ (by decide)
    by_cases h1 : k % 4 = 0
    · simp [h1]
    · by_cases h2 : k % 4 = 1
      · simp [h2]
      · by_cases h3 : k % 4 = 2
        · simp [h3]
        · have : ¬ k % 4 ≤ 1 := by omega
          simp [h1, h2, h3, this]

/-- Every table is a node, as far as is asked. -/
theorem T4.bs_node {α : Type} (t : T4 α) : ∃ v a b c d, (∀ f : Option α → T4 α → T4 α → T4 α → T4 α → T4 α, t.bs f = f v a b c d) ∧ ∀ k, t.get k = (T4.n v a b c d).get k := by
  cases t with
  | e => exact ⟨none, .e, .e, .e, .e, fun _ => rfl, fun k => by rw [T4.get_n, T4.get_e, T4.get_e]; simp⟩
  | n v a b c d => exact ⟨v, a, b, c, d, fun _ => rfl, fun _ => rfl⟩

theorem T4.get_put_same {α : Type} (x : Option α) : ∀ (f k : Nat) (t : T4 α), k < 4 ^ f → (T4.put (f + 1) x k t).get k = x := by
  intro f
  induction f with
  | zero =>
    intro k t hk
    have h0 : k = 0 := by omega
    subst h0
    obtain ⟨v, a, b, c, d, hbs, _⟩ := T4.bs_node t
    rw [T4.put_succ, hbs]
    simp [T4.get_n]
  | succ f ih =>
    intro k t hk
    obtain ⟨v, a, b, c, d, hbs, _⟩ := T4.bs_node t
    rw [T4.put_succ, hbs]
    by_cases h0 : k = 0
    · simp [h0, T4.get_n]
    · have hk4 : k / 4 < 4 ^ f := by
        rw [Nat.div_lt_iff_lt_mul (by decide)]
        rw [Nat.pow_succ] at hk
        exact hk
      have main := fun t => ih (k / 4) t hk4
      by_cases h1 : k % 4 = 0
      · simp [h0, h1, T4.get_n, main]
      · by_cases h2 : k % 4 = 1
        · simp [h0, h2, T4.get_n, main]
        · by_cases h3 : k % 4 = 2
          · simp [h0, h3, T4.get_n, main]
          · simp [h0, h1, h2, h3, T4.get_n, main]

theorem T4.get_put_other {α : Type} (x : Option α) : ∀ (f k j : Nat) (t : T4 α), j ≠ k → (T4.put f x k t).get j = t.get j := by
  intro f
  induction f with
  | zero => intro k j t _; rfl
  | succ f ih =>
    intro k j t hjk
    obtain ⟨v, a, b, c, d, hbs, hg⟩ := T4.bs_node t
    rw [T4.put_succ, hbs, hg]
    by_cases h0 : k = 0
    · have hj : j ≠ 0 := fun e => hjk (by omega)
      simp [h0, T4.get_n, hj]
    · have main : ∀ (t : T4 α), k % 4 = j % 4 → (T4.put f x (k / 4) t).get (j / 4) = t.get (j / 4) := fun t e => ih _ _ t (by omega)
      have k4 : k % 4 < 4 := Nat.mod_lt _ (by decide)
      have j4 : j % 4 < 4 := Nat.mod_lt _ (by decide)
      by_cases hj0 : j = 0
      · subst hj0
        by_cases h1 : k % 4 = 0
        · simp [h0, h1, T4.get_n]
        · by_cases h2 : k % 4 = 1
          · simp [h0, h2, T4.get_n]
          · by_cases h3 : k % 4 = 2
            · simp [h0, h3, T4.get_n]
            · simp [h0, h1, h2, h3, T4.get_n]
      · by_cases h1 : k % 4 = 0
        · by_cases e : j % 4 = 0
          · simp [h0, h1, T4.get_n, hj0, e, main a (by omega)]
          · simp [h0, h1, T4.get_n, hj0, e]
        · by_cases h2 : k % 4 = 1
          · by_cases e : j % 4 = 1
            · simp [h0, h2, T4.get_n, hj0, e, main b (by omega)]
            · simp [h0, h2, T4.get_n, hj0, e]
          · by_cases h3 : k % 4 = 2
            · by_cases e : j % 4 = 2
              · simp [h0, h3, T4.get_n, hj0, e, main c (by omega)]
              · simp [h0, h3, T4.get_n, hj0, e]
            · by_cases e : j % 4 = 0 ∨ j % 4 = 1 ∨ j % 4 = 2
              · rcases e with e | e | e <;> simp [h0, h1, h2, h3, T4.get_n, hj0, e]
              · have e1 : ¬ j % 4 = 0 := fun h => e (.inl h)
                have e2 : ¬ j % 4 = 1 := fun h => e (.inr (.inl h))
                have e3 : ¬ j % 4 = 2 := fun h => e (.inr (.inr h))
                simp [h0, h1, h2, h3, T4.get_n, hj0, e1, e2, e3, main d (by omega)]

theorem get_put4 {α : Type} (x : Option α) (k j : Nat) (t : T4 α) (hk : k < top4) : (T4.put fuel4 x k t).get j = if j = k then x else t.get j := by
  by_cases h : j = k
  · subst h
    rw [if_pos rfl]
    exact T4.get_put_same x 40 j t hk
  · rw [if_neg h, T4.get_put_other x _ _ _ _ h]
end Ev
end Go
namespace Go
namespace Ev

/-- Where a block of the evaluator's lies: a block, a place; the size of a slice's element, and how many cells are its own. -/
structure Loc where
  blk : Nat
  off : Nat
  sz : Nat
  lim : Nat

abbrev Mp := Nat → Option Loc

def Mp.le (m m' : Mp) : Prop := ∀ i l, m i = some l → m' i = some l
theorem Mp.le_refl (m : Mp) : m.le m := fun _ _ h => h
theorem Mp.le_trans {a b c : Mp} (h : a.le b) (h' : b.le c) : a.le c := fun i l hi => h' i l (h i l hi)

def Fn.noYield : Fn → Prop
  | .yield _ => False
  | _ => True

mutual
/-- A value of the evaluator's, and the machine's. -/
inductive VR (m : Mp) : Value → Value → Prop
  | bool (b : Bool) : VR m (.bool b) (.bool b)
  | int (k : IntKind) (n : Int) : VR m (.int k n) (.int k n)
  | float (k : FloatKind) (n : Nat) : VR m (.float k n) (.float k n)
  | complex (k : FloatKind) (a b : Nat) : VR m (.complex k a b) (.complex k a b)
  | string (s : ByteArray) : VR m (.string s) (.string s)
  | ptrNil : VR m (.pointer none) (.pointer none)
  | ptr {b o : Nat} {l : Loc} (h : m b = some l) : VR m (.pointer (some ⟨b, o, none⟩)) (.pointer (some ⟨l.blk, l.off + o, none⟩))
  | sliceNil : VR m (.slice none 0 0) (.slice none 0 0)
  | slice {b o len cap c : Nat} {l : Loc} {a : Addr} (h : m b = some l) (hc : (isElastic cap = false ∧ c = cap) ∨ (isElastic cap = true ∧ o + c * l.sz = l.lim)) (hl : len ≤ c)
      (ha : a = ⟨l.blk, l.off + o, none⟩ ∨ c = 0) : VR m (.slice (some ⟨b, o, none⟩) len cap) (.slice (some a) len c)
  | mapNil : VR m (.map none) (.map none)
  | map {r : Nat} {l : Loc} (h : m r = some l) : VR m (.map (some r)) (.map (some l.blk))
  | func {fn : Fn} {xs ys xs' ys' : List Value} (h : Fn.noYield fn) (hx : VRs m xs xs') (hy : VRs m ys ys') : VR m (.func fn ⟨xs⟩ ⟨ys⟩) (.func fn ⟨xs'⟩ ⟨ys'⟩)
  | yield {b : Nat} {l : Loc} (h : m b = some l) : VR m (.func (.yield b) #[] #[]) (.func (.yield l.blk) #[] #[])
  | nilFunc : VR m .nilFunc .nilFunc
  | iface (t : TypeId) {v v' : Value} (h : VR m v v') : VR m (.iface t v) (.iface t v')
  | nilIface : VR m .nilIface .nilIface
  | agg {xs xs' : List Value} (h : VRs m xs xs') : VR m (.agg ⟨xs⟩) (.agg ⟨xs'⟩)
  | tuple {xs xs' : List Value} (h : VRs m xs xs') : VR m (.tuple ⟨xs⟩) (.tuple ⟨xs'⟩)
inductive VRs (m : Mp) : List Value → List Value → Prop
  | nil : VRs m [] []
  | cons {v v' : Value} {l l' : List Value} (h : VR m v v') (hl : VRs m l l') : VRs m (v :: l) (v' :: l')
end

mutual
theorem VR.mono {m m' : Mp} (h : m.le m') : ∀ {v v' : Value}, VR m v v' → VR m' v v'
  | _, _, .bool b => .bool b
  | _, _, .int k n => .int k n
  | _, _, .float k n => .float k n
  | _, _, .complex k a b => .complex k a b
  | _, _, .string s => .string s
  | _, _, .ptrNil => .ptrNil
  | _, _, .ptr hb => .ptr (h _ _ hb)
  | _, _, .sliceNil => .sliceNil
  | _, _, .slice hb hc hl ha => .slice (h _ _ hb) hc hl ha
  | _, _, .mapNil => .mapNil
  | _, _, .map hb => .map (h _ _ hb)
  | _, _, .func hn hx hy => .func hn (VRs.mono h hx) (VRs.mono h hy)
  | _, _, .yield hb => .yield (h _ _ hb)
  | _, _, .nilFunc => .nilFunc
  | _, _, .iface t hv => .iface t (VR.mono h hv)
  | _, _, .nilIface => .nilIface
  | _, _, .agg hx => .agg (VRs.mono h hx)
  | _, _, .tuple hx => .tuple (VRs.mono h hx)
theorem VRs.mono {m m' : Mp} (h : m.le m') : ∀ {l l' : List Value}, VRs m l l' → VRs m' l l'
  | _, _, .nil => .nil
  | _, _, .cons hv hl => .cons (VR.mono h hv) (VRs.mono h hl)
end

mutual
/-- What has no address is the same. -/
theorem VR.plain {m : Mp} : ∀ {v v' : Value}, VR m v v' → vPlain v = true → v' = v
  | _, _, .bool b, _ => rfl
  | _, _, .int k n, _ => rfl
  | _, _, .float k n, _ => rfl
  | _, _, .complex k a b, _ => rfl
  | _, _, .string s, _ => rfl
  | _, _, .ptrNil, _ => rfl
  | _, _, .ptr _, h => by simp [vPlain] at h
  | _, _, .sliceNil, _ => rfl
  | _, _, .slice _ _ _ _, h => by simp [vPlain] at h
  | _, _, .mapNil, _ => rfl
  | _, _, .map _, h => by simp [vPlain] at h
  | _, _, .func hn hx hy, h => by
      simp only [vPlain, Bool.and_eq_true] at h
      rw [VRs.plain hx h.1.2, VRs.plain hy h.2]
  | _, _, .yield _, h => by simp [vPlain] at h
  | _, _, .nilFunc, _ => rfl
  | _, _, .iface t hv, h => by
      simp only [vPlain] at h
      rw [VR.plain hv h]
  | _, _, .nilIface, _ => rfl
  | _, _, .agg hx, h => by
      simp only [vPlain] at h
      rw [VRs.plain hx h]
  | _, _, .tuple hx, h => by
      simp only [vPlain] at h
      rw [VRs.plain hx h]
theorem VRs.plain {m : Mp} : ∀ {l l' : List Value}, VRs m l l' → vPlains l = true → l' = l
  | _, _, .nil, _ => rfl
  | _, _, .cons hv hl, h => by
      simp only [vPlains, Bool.and_eq_true] at h
      rw [VR.plain hv h.1, VRs.plain hl h.2]
end

mutual
theorem VR.refl_plain (m : Mp) : ∀ (v : Value), vPlain v = true → VR m v v
  | .bool b, _ => .bool b
  | .int k n, _ => .int k n
  | .float k n, _ => .float k n
  | .complex k a b, _ => .complex k a b
  | .string s, _ => .string s
  | .pointer none, _ => .ptrNil
  | .pointer (some _), h => by simp [vPlain] at h
  | .slice none l c, h => by
      simp [vPlain] at h
      obtain ⟨rfl, rfl⟩ := h
      exact .sliceNil
  | .slice (some _) _ _, h => by simp [vPlain] at h
  | .map none, _ => .mapNil
  | .map (some _), h => by simp [vPlain] at h
  | .chan _, h => by simp [vPlain] at h
  | .func fn ⟨xs⟩ ⟨ys⟩, h => by
      simp only [vPlain, Bool.and_eq_true] at h
      refine .func ?_ (VRs.refl_plain m xs h.1.2) (VRs.refl_plain m ys h.2)
      cases fn <;> simp_all [Fn.noYield]
  | .nilFunc, _ => .nilFunc
  | .iface t v, h => .iface t (VR.refl_plain m v (by simpa [vPlain] using h))
  | .nilIface, _ => .nilIface
  | .agg ⟨xs⟩, h => .agg (VRs.refl_plain m xs (by simpa [vPlain] using h))
  | .tuple ⟨xs⟩, h => .tuple (VRs.refl_plain m xs (by simpa [vPlain] using h))
theorem VRs.refl_plain (m : Mp) : ∀ (l : List Value), vPlains l = true → VRs m l l
  | [], _ => .nil
  | v :: l, h => by
      simp only [vPlains, Bool.and_eq_true] at h
      exact .cons (VR.refl_plain m v h.1) (VRs.refl_plain m l h.2)
end

theorem VR.slice_inv {m : Mp} {ad : Addr} {len cap : Nat} {u : Value} (h : VR m (.slice (some ad) len cap) u) :
    ∃ (b o : Nat) (l : Loc) (c : Nat) (a : Addr), ad = ⟨b, o, none⟩ ∧ u = .slice (some a) len c ∧ m b = some l ∧ ((isElastic cap = false ∧ c = cap) ∨ (isElastic cap = true ∧ o + c * l.sz = l.lim)) ∧ len ≤ c ∧
      (a = ⟨l.blk, l.off + o, none⟩ ∨ c = 0) := by
  cases h with
  | slice h hc hl ha => exact ⟨_, _, _, _, _, rfl, rfl, h, hc, hl, ha⟩

theorem VRs.length {m : Mp} : ∀ {l l' : List Value}, VRs m l l' → l'.length = l.length
  | _, _, .nil => rfl
  | _, _, .cons _ hl => by simp [VRs.length hl]
theorem VRs.get {m : Mp} : ∀ {l l' : List Value} (_ : VRs m l l') (i : Nat) {v : Value}, l[i]? = some v → ∃ v', l'[i]? = some v' ∧ VR m v v'
  | _, _, .nil, i, v, h => by simp at h
  | _, _, .cons hv hl, 0, v, h => by
      simp at h; subst h
      exact ⟨_, rfl, hv⟩
  | _, _, .cons hv hl, i + 1, v, h => by
      simp at h
      obtain ⟨v', h1, h2⟩ := VRs.get hl i h
      exact ⟨v', by simpa using h1, h2⟩
theorem VRs.of_get {m : Mp} : ∀ {l l' : List Value}, l'.length = l.length → (∀ (i : Nat) (v : Value), l[i]? = some v → ∃ v', l'[i]? = some v' ∧ VR m v v') → VRs m l l'
  | [], [], _, _ => .nil
  | v :: l, v' :: l', hl, h => by
      have h0 := h 0 v rfl
      simp at h0
      refine .cons h0 (VRs.of_get (by simpa using hl) fun i x hx => ?_)
      have := h (i + 1) x (by simpa using hx)
      simpa using this
  | [], _ :: _, hl, _ => by simp at hl
  | _ :: _, [], hl, _ => by simp at hl
theorem VRs.append {m : Mp} : ∀ {l l' k k' : List Value}, VRs m l l' → VRs m k k' → VRs m (l ++ k) (l' ++ k')
  | _, _, _, _, .nil, h => h
  | _, _, _, _, .cons hv hl, h => .cons hv (VRs.append hl h)
theorem VRs.take {m : Mp} : ∀ {l l' : List Value} (n : Nat), VRs m l l' → VRs m (l.take n) (l'.take n)
  | _, _, 0, _ => by simp; exact .nil
  | _, _, _ + 1, .nil => .nil
  | _, _, n + 1, .cons hv hl => .cons hv (VRs.take n hl)
theorem VRs.drop {m : Mp} : ∀ {l l' : List Value} (n : Nat), VRs m l l' → VRs m (l.drop n) (l'.drop n)
  | _, _, 0, h => h
  | _, _, _ + 1, .nil => .nil
  | _, _, n + 1, .cons _ hl => VRs.drop n hl
theorem VRs.toArray {m : Mp} {l l' : List Value} (h : VRs m l l') (i : Nat) {v : Value} (hv : l[i]? = some v) : ∃ v', (⟨l'⟩ : Array Value)[i]? = some v' ∧ VR m v v' := by
  obtain ⟨v', h1, h2⟩ := h.get i hv
  exact ⟨v', by simpa using h1, h2⟩

/-- The temporaries. -/
def TR (m : Mp) (T : T4 Value) (a : Array Value) : Prop := ∀ i, VR m ((T.get i).getD undef) (a.getD i undef)
theorem TR.mono {m m' : Mp} (h : m.le m') {T : T4 Value} {a : Array Value} (ht : TR m T a) : TR m' T a := fun i => (ht i).mono h

structure FR (m : Mp) (fr : AFr) (a : Act) : Prop where
  size : a.tmps.size = fr.n
  top : fr.n ≤ top4
  tmps : TR m fr.tmps a.tmps
theorem FR.mono {m m' : Mp} (h : m.le m') {fr : AFr} {a : Act} (hf : FR m fr a) : FR m' fr a := ⟨hf.size, hf.top, hf.tmps.mono h⟩

theorem vr_undef (m : Mp) : VR m undef undef := .tuple .nil

theorem FR.put {m : Mp} {fr fr' : AFr} {a : Act} (hf : FR m fr a) {dst : Option Tmp} {v v' : Value} (hv : VR m v v') (hp : fr.put dst v = some fr') :
    FR m fr' (a.put dst v') ∧ fr'.defers = fr.defers := by
  cases dst with
  | none =>
    simp only [AFr.put_none, Option.some.injEq] at hp
    subst hp
    exact ⟨hf, rfl⟩
  | some d =>
    simp only [AFr.put_some] at hp
    by_cases hd : d < fr.n
    · have hb : Nat.blt d fr.n = true := by simpa using hd
      rw [hb] at hp
      simp only [cond_true, Option.some.injEq] at hp
      subst hp
      refine ⟨⟨by simp [Act.put, hf.size], hf.top, fun i => ?_⟩, rfl⟩
      have hget := get_put4 (some v) d i fr.tmps (Nat.lt_of_lt_of_le hd hf.top)
      simp only [hget, Act.put]
      by_cases hi : i = d
      · subst hi
        simp only [if_true, Option.getD_some]
        have : i < a.tmps.size := by rw [hf.size]; exact hd
        simp [this, hv]
      · rw [if_neg hi]
        have := hf.tmps i
        have hne : d ≠ i := fun e => hi e.symm
        simpa [Array.getElem?_setIfInBounds_ne hne] using this
    · have hb : Nat.blt d fr.n = false := by rw [Bool.eq_false_iff]; simpa using hd
      rw [hb] at hp
      simp at hp

structure ER (m : Mp) (e e' : Ent) : Prop where
  key : VR m e.key e'.key
  val : VR m e.val e'.val
  born : e'.born = e.born
def toEnt (e : MapEntry) : Ent := ⟨e.key, e.val, e.born⟩
inductive ERs (m : Mp) : List Ent → List MapEntry → Prop
  | nil : ERs m [] []
  | cons {e : Ent} {e' : MapEntry} {l : List Ent} {l' : List MapEntry} (h : ER m e (toEnt e')) (hl : ERs m l l') : ERs m (e :: l) (e' :: l')
theorem ERs.mono {m m' : Mp} (h : m.le m') : ∀ {l : List Ent} {l' : List MapEntry}, ERs m l l' → ERs m' l l'
  | _, _, .nil => .nil
  | _, _, .cons he hl => .cons ⟨he.key.mono h, he.val.mono h, he.born⟩ (ERs.mono h hl)

/-- A block of the evaluator's, and the machine's heap. -/
def ObjR (P : Program) (m : Mp) (hp : Array Obj) : AObj → Loc → Prop
  | .cells c e, l => l.sz = P.cellsOf e ∧ c.length ≤ l.lim ∧ ∃ C e' fz, hp[l.blk]? = some (.cells C e' fz) ∧ l.off + l.lim ≤ C.size ∧ (fz = (0, 0) ∨ fz = (C.size, C.size + 1)) ∧
      ∀ i v, c[i]? = some v → ∃ v', C[l.off + i]? = some v' ∧ VR m v v'
  | .map es clock, l => l.off = 0 ∧ ∃ es', hp[l.blk]? = some (.map es' clock) ∧ ERs m es es'.toList
  | .mapIter mp since seen st, l => l.off = 0 ∧ ∃ mp', hp[l.blk]? = some (.mapIter mp' since ⟨seen⟩ st) ∧
      ((mp = none ∧ mp' = none) ∨ ∃ r lr, mp = some r ∧ m r = some lr ∧ mp' = some lr.blk)
  | .strIter s pos, l => l.off = 0 ∧ hp[l.blk]? = some (.stringIter s pos)
  | .loop st pend T n ps as bo d, l => l.off = 0 ∧ ∃ fn a ld, hp[l.blk]? = some (.loop { state := st, pending := pend, fn := fn, tmps := a, params := ps, assign := as, body := bo, defers := ld.blk }) ∧
      a.size = n ∧ n ≤ top4 ∧ TR m T a ∧ m d = some ld
  | .deferred, l => l.off = 0 ∧ hp[l.blk]? = some (.deferred (some []))
theorem ObjR.mono {P : Program} {m m' : Mp} (h : m.le m') {hp hp' : Array Obj} {o : AObj} {l : Loc} (he : hp'[l.blk]? = hp[l.blk]?) (ho : ObjR P m hp o l) : ObjR P m' hp' o l := by
  cases o with
  | cells c e =>
    obtain ⟨h1, h2, C, e', fz, h3, h4, h5, h6⟩ := ho
    exact ⟨h1, h2, C, e', fz, he.trans h3, h4, h5, fun i v hv => let ⟨v', a, b⟩ := h6 i v hv; ⟨v', a, b.mono h⟩⟩
  | map es clock =>
    obtain ⟨h1, es', h2, h3⟩ := ho
    exact ⟨h1, es', he.trans h2, h3.mono h⟩
  | mapIter mp since seen st =>
    obtain ⟨h1, mp', h2, h3⟩ := ho
    exact ⟨h1, mp', he.trans h2, h3.imp id fun ⟨r, lr, a, b, c⟩ => ⟨r, lr, a, h _ _ b, c⟩⟩
  | strIter s pos => exact ⟨ho.1, he.trans ho.2⟩
  | loop st pend T n ps as bo d =>
    obtain ⟨h1, fn, a, ld, h2, h3, h4, h5, h6⟩ := ho
    exact ⟨h1, fn, a, ld, he.trans h2, h3, h4, h5.mono h, h _ _ h6⟩
  | deferred => exact ⟨ho.1, he.trans ho.2⟩
theorem ObjR.lt {P : Program} {m : Mp} {hp : Array Obj} {o : AObj} {l : Loc} (ho : ObjR P m hp o l) : l.blk < hp.size := by
  have : ∃ x, hp[l.blk]? = some x := by
    cases o with
    | cells c e => obtain ⟨_, _, C, e', fz, h, _⟩ := ho; exact ⟨_, h⟩
    | map es clock => obtain ⟨_, es', h, _⟩ := ho; exact ⟨_, h⟩
    | mapIter mp since seen st => obtain ⟨_, mp', h, _⟩ := ho; exact ⟨_, h⟩
    | strIter s pos => exact ⟨_, ho.2⟩
    | loop st pend T n ps as bo d => obtain ⟨_, fn, a, ld, h, _⟩ := ho; exact ⟨_, h⟩
    | deferred => exact ⟨_, ho.2⟩
  obtain ⟨x, hx⟩ := this
  exact (Array.getElem?_eq_some_iff.1 hx).1

/-- The evaluator's world and the machine's. -/
structure HR (P : Program) (m : Mp) (A : AW) (w : World) : Prop where
  top : A.next ≤ top4
  live : ∀ i o, A.get i = some o → i < A.next
  dom : ∀ i l, m i = some l → i < A.next
  inj : ∀ i j oi oj li lj, A.get i = some oi → A.get j = some oj → m i = some li → m j = some lj → li.blk = lj.blk → i = j
  obj : ∀ i o l, A.get i = some o → m i = some l → ObjR P m w.heap o l

def Owned (A : AW) (m : Mp) (r : Nat) : Prop := ∃ i o l, A.get i = some o ∧ m i = some l ∧ l.blk = r

/-- From one state to a later one. -/
structure Ext (A : AW) (m : Mp) (w : World) (A' : AW) (m' : Mp) (w' : World) : Prop where
  le : m.le m'
  next : A.next ≤ A'.next
  new : ∀ i l, m i = none → m' i = some l → A.next ≤ i
  size : w.heap.size ≤ w'.heap.size
  frame : ∀ r, r < w.heap.size → ¬ Owned A m r → w'.heap[r]? = w.heap[r]? ∧ ¬ Owned A' m' r
  tape : w'.tape = w.tape
  os : w'.os = w.os
  out : w'.output = w.output
theorem Ext.refl (A : AW) (m : Mp) (w : World) : Ext A m w A m w := ⟨Mp.le_refl m, Nat.le_refl _, (fun i l h h' => by rw [h] at h'; cases h'), Nat.le_refl _, fun _ _ h => ⟨rfl, h⟩, rfl, rfl, rfl⟩
theorem Ext.trans {A B C : AW} {a b c : Mp} {u v w : World} (h : Ext A a u B b v) (h' : Ext B b v C c w) : Ext A a u C c w where
  le := Mp.le_trans h.le h'.le
  next := Nat.le_trans h.next h'.next
  new := fun i l hn hs => by
    cases hb : b i with
    | none => exact Nat.le_trans h.next (h'.new i l hb hs)
    | some l' => exact h.new i l' hn hb
  size := Nat.le_trans h.size h'.size
  frame := fun r hr hn => by
    obtain ⟨h1, h2⟩ := h.frame r hr hn
    obtain ⟨h3, h4⟩ := h'.frame r (Nat.lt_of_lt_of_le hr h.size) h2
    exact ⟨h3.trans h1, h4⟩
  tape := h'.tape.trans h.tape
  os := h'.os.trans h.os
  out := h'.out.trans h.out

theorem opnd_vr {m : Mp} {fr : AFr} {a : Act} (hf : FR m fr a) {x : Operand} {v : Value} (h : opnd fr x = some v) : VR m v (a.eval x) := by
  cases x with
  | tmp t =>
    simp only [opnd, AFr.tmp, Option.some.injEq] at h
    subst h
    exact hf.tmps t
  | const c =>
    simp only [opnd] at h
    cases hp : vPlain c with
    | true => simp [hp] at h; subst h; exact .refl_plain m _ hp
    | false => simp [hp] at h
  | global g => simp [opnd] at h
  | func f =>
    simp only [opnd, Option.some.injEq] at h
    subst h
    exact .func trivial .nil .nil
theorem opnds_vr {m : Mp} {fr : AFr} {a : Act} (hf : FR m fr a) : ∀ {l : List Operand} {vs : List Value}, opnds fr l = some vs → VRs m vs (l.map a.eval)
  | [], vs, h => by simp [opnds] at h; subst h; exact .nil
  | x :: l, vs, h => by
    simp only [opnds] at h
    cases h1 : opnd fr x with
    | none => simp [h1] at h
    | some v =>
      cases h2 : opnds fr l with
      | none => simp [h1, h2] at h
      | some ws =>
        simp [h1, h2] at h
        subst h
        exact .cons (opnd_vr hf h1) (opnds_vr hf h2)

end Ev
end Go
namespace Go
namespace Ev

def Objs (P : Program) (m : Mp) (A : AW) (w : World) : Prop := ∀ i o l, A.get i = some o → m i = some l → ObjR P m w.heap o l
theorem HR.objs {P : Program} {m : Mp} {A : AW} {w : World} (h : HR P m A w) : Objs P m A w := h.obj

theorem semPure_run {α : Type} {P : Program} : ∀ (s : Sem α) (r : α) (w : World), semPure P s = some r → s.run P w = .ok r w := by
  intro s
  induction s with
  | pure a => intro r w h; simp only [semPure, Option.some.injEq] at h; subst h; rfl
  | program k ih => intro r w h; simp only [semPure] at h; simp only [Sem.run]; exact ih P r w h
  | _ => intros; simp_all [semPure]

theorem cellsOfV_eq (v : Value) : cellsOfV v = v.cells.toList := by
  cases v <;> rfl

theorem VR.cells {m : Mp} {v v' : Value} (h : VR m v v') : VRs m (cellsOfV v) v'.cells.toList := by
  cases h <;> first
    | (rename_i h; exact h)
    | exact .cons (by constructor <;> assumption) .nil
    | skip
theorem addr_add (b o n : Nat) : (⟨b, o, none⟩ : Addr).add n = ⟨b, o + n, none⟩ := by
  unfold Addr.add
  split
  · subst_vars; rfl
  · rfl

theorem cut_some {n o : Nat} {c r : List Value} (h : cut n o c = some r) : r = (c.drop o).take n ∧ r.length = n := by
  simp only [cut] at h
  cases hb : Nat.beq ((c.drop o).take n).length n with
  | true => rw [hb] at h; simp only [cond_true, Option.some.injEq] at h; exact ⟨h.symm, by rw [← h]; exact Nat.eq_of_beq_eq_true hb⟩
  | false => rw [hb] at h; cases h

/-- A block of cells, in the machine's world: its cells from a place on. -/
theorem objs_cells {P : Program} {m : Mp} {A : AW} {w : World} (hO : Objs P m A w) {b : Nat} {c : List Value} {e : TypeId} {l : Loc} (hg : A.get b = some (.cells c e)) (hm : m b = some l) :
    ∀ i v, c[i]? = some v → ∃ v', w.cell? ⟨l.blk, l.off + i, none⟩ = some v' ∧ VR m v v' := by
  obtain ⟨_, _, C, e', fz, h1, _, _, h2⟩ := hO b _ l hg hm
  intro i v hv
  obtain ⟨v', h3, h4⟩ := h2 i v hv
  exact ⟨v', by simp [World.cell?, h1, h3], h4⟩

/-- A row of the evaluator's cells is a row of the machine's. -/
theorem objs_row {P : Program} {m : Mp} {A : AW} {w : World} (hO : Objs P m A w) {b : Nat} {c : List Value} {e : TypeId} {l : Loc} (hg : A.get b = some (.cells c e)) (hm : m b = some l)
    {n o : Nat} {r : List Value} (hc : cut n o c = some r) : ∃ r' : List Value, VRs m r r' ∧ r'.length = n ∧ ∀ (j : Nat) (v : Value), r'[j]? = some v → w.cell? ((⟨l.blk, l.off + o, none⟩ : Addr).add j) = some v := by
  obtain ⟨hr, hl⟩ := cut_some hc
  have hcell := objs_cells hO hg hm
  have : ∀ k, k ≤ n → ∃ r' : List Value, VRs m (r.take k) r' ∧ r'.length = k ∧ ∀ (j : Nat) (v : Value), r'[j]? = some v → w.cell? ((⟨l.blk, l.off + o, none⟩ : Addr).add j) = some v := by
    intro k
    induction k with
    | zero => intro _; exact ⟨[], by simp; exact .nil, rfl, by simp⟩
    | succ k ih =>
      intro hk
      obtain ⟨r', h1, h2, h3⟩ := ih (by omega)
      have hlt : k < r.length := by omega
      obtain ⟨x, hx⟩ : ∃ x, r[k]? = some x := ⟨_, List.getElem?_eq_getElem hlt⟩
      have hv : c[o + k]? = some x := by
        have hx' := hx
        rw [hr, List.getElem?_take] at hx'
        split at hx'
        · rwa [List.getElem?_drop] at hx'
        · cases hx'
      obtain ⟨v', h4, h5⟩ := hcell _ _ hv
      refine ⟨r' ++ [v'], ?_, by simp [h2], ?_⟩
      · rw [List.take_add_one, hx]
        exact h1.append (.cons h5 .nil)
      · intro j v hj
        by_cases hjk : j < k
        · rw [List.getElem?_append_left (by omega)] at hj
          exact h3 j v hj
        · rw [List.getElem?_append_right (by omega)] at hj
          have : j - r'.length = 0 := by
            rcases Nat.eq_zero_or_pos (j - r'.length) with h | h
            · exact h
            · rw [List.getElem?_eq_none (by simp; omega)] at hj
              cases hj
          rw [this] at hj
          simp at hj
          subst hj
          have : j = k := by omega
          subst this
          rw [addr_add, Nat.add_assoc]
          exact h4
  obtain ⟨r', h1, h2, h3⟩ := this n (Nat.le_refl _)
  rw [List.take_of_length_le (by omega)] at h1
  exact ⟨r', h1, h2, h3⟩

section
variable {P : Program} {m : Mp} {A : AW} {w : World} {fr : AFr} {a : Act}

theorem run_isAgg {t : TypeId} {b : Bool} (h : isAggT P t = some b) : (isAgg t).run P w = .ok b w := by
  unfold isAggT at h
  cases hu : P.underlying t with
  | none => simp [hu] at h
  | some d => cases d <;> simp [hu] at h <;> subst h <;> simp [isAgg, run_underlying hu]
theorem run_sizeOf {t : TypeId} {i : TypeInfo} (h : P.info? t = some i) : (sizeOf t).run P w = .ok i.size w := by
  simp [sizeOf, typeInfo, h]
theorem varInfo_some {t : TypeId} {g : Bool} {n : Nat} (h : varInfo P t = some (g, n)) : isAggT P t = some g ∧ ∃ i, P.info? t = some i ∧ i.size = n := by
  unfold varInfo at h
  cases h1 : isAggT P t with
  | none => simp [h1] at h
  | some b =>
    cases h2 : P.info? t with
    | none => simp [h1, h2] at h
    | some i =>
      simp [h1, h2] at h
      obtain ⟨rfl, rfl⟩ := h
      exact ⟨rfl, i, rfl, rfl⟩

theorem head_drop {c : List Value} {o : Nat} {v : Value} (h : (c.drop o).head? = some v) : c[o]? = some v := by
  rw [List.head?_drop] at h
  exact h

theorem loadVar_ok (hO : Objs P m A w) {t : TypeId} {vi : Bool × Nat} (hvi : varInfo P t = some vi) {b o : Nat} {l : Loc} (hm : m b = some l) {v : Value} (h : loadAt A vi b o = some v) :
    ∃ v', (loadVar t ⟨l.blk, l.off + o, none⟩).run P w = .ok v' w ∧ VR m v v' := by
  obtain ⟨g, n⟩ := vi
  obtain ⟨h1, i, h2, h3⟩ := varInfo_some hvi
  unfold loadAt at h
  cases hg : A.get b with
  | none => simp [hg] at h
  | some ob =>
    cases ob <;> simp [hg] at h
    rename_i c e
    cases g with
    | true =>
      simp only at h
      cases hc : cut n o c with
      | none => simp [hc] at h
      | some r =>
        simp [hc] at h
        subst h
        obtain ⟨r', hr1, hr2, hr3⟩ := objs_row hO hg hm hc
        refine ⟨.agg r'.toArray, ?_, .agg hr1⟩
        have := run_loadCells_list (P := P) w ⟨l.blk, l.off + o, none⟩ r' hr3
        rw [hr2, ← h3] at this
        simp only [loadVar, Sem.run_bind, run_isAgg h1, Result.andThen_ok, if_true, run_sizeOf h2, this, Sem.run_pure]
    | false =>
      simp only at h
      rw [← List.head?_drop] at h
      obtain ⟨v', h4, h5⟩ := objs_cells hO hg hm o v (head_drop h)
      exact ⟨v', by simp only [loadVar, Sem.run_bind, run_isAgg h1, Result.andThen_ok, Bool.false_eq_true, if_false, run_load, h4], h5⟩
end

end Ev
end Go
namespace Go
namespace Ev
section
variable {P : Program} {m : Mp} {A : AW} {w : World} {fr : AFr} {a : Act}

theorem beq_true {x y : Nat} (h : Nat.beq x y = true) : x = y := Nat.eq_of_beq_eq_true h
theorem ble_true {x y : Nat} (h : Nat.ble x y = true) : x ≤ y := Nat.le_of_ble_eq_true h
theorem blt_true {x y : Nat} (h : Nat.blt x y = true) : x < y := Nat.le_of_ble_eq_true h

theorem ok_pick {c x y : Operand} {v : Value} {ty : TypeId} (hF : FR m fr a) (h : evR P fr A ty (.pick c x y) = some v) :
    ∃ v', (do pure (Next.value (if ← asBool (a.eval c) then a.eval x else a.eval y)) : Sem Next).run P w = .ok (.value v') w ∧ VR m v v' := by
  simp only [evR] at h
  split at h
  · rename_i hc
    have hb := opnd_vr hF hc
    cases hx : opnd fr x with
    | none => simp [hx] at h
    | some vx =>
      cases hy : opnd fr y with
      | none => simp [hx, hy] at h
      | some vy =>
        simp [hx, hy] at h
        subst h
        generalize a.eval c = e at *
        cases hb
        exact ⟨_, by simp [asBool], opnd_vr hF hx⟩
  · rename_i hc
    have hb := opnd_vr hF hc
    cases hx : opnd fr x with
    | none => simp [hx] at h
    | some vx =>
      cases hy : opnd fr y with
      | none => simp [hx, hy] at h
      | some vy =>
        simp [hx, hy] at h
        subst h
        generalize a.eval c = e at *
        cases hb
        exact ⟨_, by simp [asBool], opnd_vr hF hy⟩
  · cases h

inductive PRs (m : Mp) : List (Nat × Value) → List (Nat × Value) → Prop
  | nil : PRs m [] []
  | cons {i : Nat} {v v' : Value} {l l' : List (Nat × Value)} (h : VR m v v') (hl : PRs m l l') : PRs m ((i, v) :: l) ((i, v') :: l')
theorem partsOf_vr (hF : FR m fr a) : ∀ {l : List (Nat × Operand)} {ps : List (Nat × Value)}, partsOf fr l = some ps → PRs m ps (l.map fun (i, x) => (i, a.eval x))
  | [], ps, h => by simp only [partsOf, Option.some.injEq] at h; subst h; exact .nil
  | (i, x) :: l, ps, h => by
    simp only [partsOf] at h
    cases h1 : opnd fr x with
    | none => simp [h1] at h
    | some v =>
      cases h2 : partsOf fr l with
      | none => simp [h1, h2] at h
      | some ws =>
        simp [h1, h2] at h
        subst h
        exact .cons (opnd_vr hF h1) (partsOf_vr hF h2)

theorem vrs_set : ∀ {l l' : List Value} (_ : VRs m l l') {v v' : Value} (_ : VR m v v') (i : Nat), VRs m (l.set i v) (l'.set i v')
  | _, _, .nil, _, _, _, _ => .nil
  | _, _, .cons _ hl, _, _, hv, 0 => .cons hv hl
  | _, _, .cons h hl, _, _, hv, i + 1 => .cons h (vrs_set hl hv i)

theorem fold_put {off : Nat} : ∀ {vs vs' : List Value} (_ : VRs m vs vs') (k : Nat) {cs cs' : Array Value} (_ : VRs m cs.toList cs'.toList),
    VRs m ((vs.zipIdx k).foldl (fun cs (c, j) => cs.setIfInBounds (off + j) c) cs).toList ((vs'.zipIdx k).foldl (fun cs (c, j) => cs.setIfInBounds (off + j) c) cs').toList
  | _, _, .nil, k, cs, cs', hc => hc
  | _, _, .cons hv hl, k, cs, cs', hc => by
    simp only [List.zipIdx_cons, List.foldl_cons]
    refine fold_put hl (k + 1) ?_
    simp only [Array.toList_setIfInBounds]
    exact vrs_set hc hv _

theorem fill_vr {place : Nat → Option (Nat × Nat)} : ∀ {ps ps' : List (Nat × Value)} (_ : PRs m ps ps') {cs cs' r : Array Value} (_ : VRs m cs.toList cs'.toList), Instr.fill place cs ps = some r →
    ∃ r', Instr.fill place cs' ps' = some r' ∧ VRs m r.toList r'.toList
  | _, _, .nil, cs, cs', r, hc, h => by
    simp only [Instr.fill, Option.some.injEq] at h ⊢
    subst h
    exact ⟨_, rfl, hc⟩
  | _, _, .cons (i := i) (v := v) (v' := v') hv hl, cs, cs', r, hc, h => by
    simp only [Instr.fill] at h ⊢
    cases hp : place i with
    | none => simp [hp] at h
    | some p =>
      obtain ⟨off, size⟩ := p
      simp only [hp] at h ⊢
      have hcl := VR.cells hv
      rw [cellsOfV_eq] at hcl
      have hs : v'.cells.size = v.cells.size := by simpa using hcl.length
      have hcs : cs'.size = cs.size := by simpa using hc.length
      rw [hs, hcs]
      split at h
      · cases h
      · rename_i hn
        rw [if_neg hn]
        refine fill_vr hl ?_ h
        have e : ∀ (z : Array Value) (y : Array Value), (y.zipIdx.foldl (fun cs (x : Value × Nat) => cs.setIfInBounds (off + x.2) x.1) z) = (y.toList.zipIdx.foldl (fun cs (x : Value × Nat) => cs.setIfInBounds (off + x.2) x.1) z) := by
          intro z y
          rw [← Array.foldl_toList]
          congr 1
          simp
        have e1 := e cs v.cells
        have e2 := e cs' v'.cells
        rw [e1, e2]
        exact fold_put hcl 0 hc

theorem zeroOf_some {t : TypeId} {z : Value} (h : zeroOf P t = some z) : ∃ i, P.info? t = some i ∧ i.zero = some z ∧ vPlain z = true := by
  unfold zeroOf at h
  cases h1 : P.info? t with
  | none => simp [h1] at h
  | some i =>
    cases h2 : i.zero with
    | none => simp [h1, h2] at h
    | some v =>
      cases h3 : vPlain v with
      | false => simp [h1, h2, h3] at h
      | true =>
        simp [h1, h2, h3] at h
        subst h
        exact ⟨i, rfl, h2, h3⟩

theorem ok_build {t : TypeId} {parts : Array (Nat × Operand)} {v : Value} {ty : TypeId} (hF : FR m fr a) (h : evR P fr A ty (.build t parts) = some v) :
    ∃ v', (Instr.build t (parts.map fun (i, x) => (i, a.eval x))).run P w = .ok v' w ∧ VR m v v' := by
  simp only [evR] at h
  cases hp : partsOf fr parts.toList with
  | none => simp [hp] at h
  | some ps =>
    cases hz : zeroOf P t with
    | none => simp [hp, hz] at h
    | some z =>
      cases hb : P.built t ps with
      | none => simp [hp, hz, hb] at h
      | some cs =>
        simp [hp, hz, hb] at h
        subst h
        have hps := partsOf_vr hF hp
        obtain ⟨i, hi, hzi, hpl⟩ := zeroOf_some hz
        have key : ∃ cs', P.built t (parts.toList.map fun (i, x) => (i, a.eval x)) = some cs' ∧ VRs m cs.toList cs'.toList := by
          have hz' : VRs m z.cells.toList z.cells.toList := by
            have := VR.cells (VR.refl_plain m z hpl)
            rwa [cellsOfV_eq] at this
          unfold Program.built at hb ⊢
          cases hu : P.underlying t with
          | none => simp [hi, hu] at hb
          | some d =>
            cases d <;> try (simp [hi, hu] at hb; done)
            case array n e =>
              cases hie : P.info? e with
              | none => simp [hi, hu, hzi, hie] at hb
              | some ie =>
                simp only [hi, hu, hzi, hie] at hb ⊢
                exact fill_vr hps hz' hb
            case struct fs =>
              simp only [hi, hu, hzi] at hb ⊢
              split at hb
              · rename_i z' pl hz0 hpl0
                simp only [Option.some.injEq] at hz0
                subst hz0
                exact fill_vr hps hz' hb
              · cases hb
        obtain ⟨cs', hb', hr⟩ := key
        refine ⟨.agg cs', run_build w t _ cs' (by simpa using hb'), ?_⟩
        have := VR.agg (m := m) hr
        simpa using this

theorem ok_load {t : TypeId} {x : Operand} {v : Value} {ty : TypeId} (hO : Objs P m A w) (hF : FR m fr a) (h : evR P fr A ty (.load t x) = some v) :
    ∃ v', (Instr.loadAt t (a.eval x)).run P w = .ok v' w ∧ VR m v v' := by
  simp only [evR] at h
  split at h
  · rename_i b o vi hx hvi
    have hv := opnd_vr hF hx
    generalize a.eval x = e at *
    cases hv
    rename_i l hm
    obtain ⟨v', h1, h2⟩ := loadVar_ok hO hvi hm h
    exact ⟨v', by simp [Instr.loadAt, Instr.sureAddr, h1], h2⟩
  · cases h

theorem plainOp_ok {s : Sem Value} {r : Value} (h : plainOp P s = some r) : s.run P w = .ok r w ∧ VR m r r := by
  unfold plainOp at h
  cases h1 : semPure P s with
  | none => simp [h1] at h
  | some v =>
    cases h2 : vPlain v with
    | false => simp [h1, h2] at h
    | true =>
      simp [h1, h2] at h
      subst h
      exact ⟨semPure_run s v w h1, .refl_plain m v h2⟩

theorem wrap_i64_small (n : Nat) (h : n < 9223372036854775808) : IntKind.i64.wrap (Int.ofNat n) = Int.ofNat n := by
  show (if (true && decide (((n : Int) % 18446744073709551616) ≥ 9223372036854775808)) = true then (((n : Int) % 18446744073709551616) - 18446744073709551616) else ((n : Int) % 18446744073709551616)) = (n : Int)
  have e : (n : Int) % 18446744073709551616 = n := by omega
  rw [e, if_neg (by simp; omega)]
theorem wrap_u64_small (n : Nat) (h : n < 18446744073709551616) : IntKind.u64.wrap (Int.ofNat n) = Int.ofNat n := by
  show ((n : Int) % 18446744073709551616) = (n : Int)
  omega
theorem wrapF_eq (k : IntKind) (n : Int) : wrapF k n = k.wrap n := by
  unfold wrapF
  cases n with
  | negSucc n => rfl
  | ofNat n =>
    cases k
    case i64 =>
      simp only
      cases hb : Nat.blt n 9223372036854775808 with
      | false => rfl
      | true => exact (wrap_i64_small n (blt_true hb)).symm
    case u64 =>
      simp only
      cases hb : Nat.blt n 18446744073709551616 with
      | false => rfl
      | true => exact (wrap_u64_small n (blt_true hb)).symm
    all_goals rfl

theorem intEq_eq (a b : Int) : intEq a b = (a == b) := by
  cases a <;> cases b <;> simp [intEq]
  · rw [Bool.eq_iff_iff]; simp; omega
  · rw [Bool.eq_iff_iff]; simp
theorem intLt_eq (a b : Int) : intLt a b = decide (a < b) := by
  cases a <;> cases b <;> simp only [intLt]
  · rw [Bool.eq_iff_iff, Nat.blt_eq]; simp
  · simp; omega
  · simp; omega
  · rw [Bool.eq_iff_iff, Nat.blt_eq]; simp; omega

theorem kEq_eq {k j : IntKind} (h : kEq k j = true) : k = j := by
  cases k <;> cases j <;> first | rfl | cases h

theorem intBin_ok {op : BinOp} {t : TypeId} {k : IntKind} {x y : Int} {v : Value} (h : intBin op k x y = some v) : (binOp op t (.int k x) (.int k y)).run P w = .ok v w := by
  cases op <;> simp only [intBin, Option.some.injEq] at h <;> (try cases h) <;> (try rfl) <;>
    simp [binOp, Op.intArith, Op.intCmp, wrapF_eq, intEq_eq, intLt_eq]
  · rfl
  · rw [Bool.eq_iff_iff]; simp
  · rw [Bool.eq_iff_iff]; simp

theorem run_eqGuard_addr {op : BinOp} {t : TypeId} {x y : Operand} {u v : Value} (h : ∀ a b, u = .agg a → v = .agg b → False) (h' : u = .nilIface → v = .nilIface → False) :
    (eqGuard op t x y u v).run P w = .ok () w := by
  have key : ∀ (Z : Sem Unit) (Y : Sem Unit), (match u, v with | .nilIface, .nilIface => Z | .agg _, .agg _ => Y | _, _ => (pure () : Sem Unit)).run P w = .ok () w := by
    intro Z Y
    split
    · exact (h' rfl rfl).elim
    · exact (h _ _ rfl rfl).elim
    · rfl
  unfold eqGuard
  cases op <;> first | rfl | exact key _ _

end
end Ev
end Go
namespace Go
namespace Ev
section
variable {P : Program} {m : Mp} {A : AW} {w : World} {fr : AFr} {a : Act}

theorem and_true {x y : Bool} (h : (x && y) = true) : x = true ∧ y = true := by simpa using h
theorem bif_some {α : Type} {c : Bool} {x y : Option α} {v : α} (h : (bif c then x else y) = some v) : (c = true ∧ x = some v) ∨ (c = false ∧ y = some v) := by
  cases c
  · exact .inr ⟨rfl, h⟩
  · exact .inl ⟨rfl, h⟩
theorem bif_some' {α : Type} {c : Bool} {x : Option α} {v : α} (h : (bif c then x else none) = some v) : c = true ∧ x = some v := by
  rcases bif_some h with h | ⟨_, h⟩
  · exact h
  · cases h

theorem nilEq_eq {t : TypeId} {u v u' v' : Value} {r : Bool} (h : nilEq P t u v = some r) (hu : VR m u u') (hv : VR m v v') (d : Nat) :
    (Op.equalIn (d + 1) t u' v').run P w = .ok r w := by
  unfold nilEq at h
  split at h <;> (try cases h) <;> rename_i hu0 <;> cases hu <;> cases hv <;> simp [Op.equalIn, run_underlying hu0]
theorem nilEq_bin {t : TypeId} {x y : Operand} {u v u' v' : Value} {r : Bool} (h : nilEq P t u v = some r) (hu : VR m u u') (hv : VR m v v') :
    (do eqGuard .eql t x y u' v'; binOp .eql t u' v' : Sem Value).run P w = .ok (.bool r) w ∧ (do eqGuard .neq t x y u' v'; binOp .neq t u' v' : Sem Value).run P w = .ok (.bool (!r)) w := by
  have he : (Op.equal t u' v').run P w = .ok r w := nilEq_eq (w := w) h hu hv 9999
  unfold nilEq at h
  split at h <;> (try cases h) <;> cases hu <;> cases hv <;> simp only [Sem.run_bind, eqGuard, binOp] <;> simp [he]

theorem ok_bin {op : BinOp} {t ty yt : TypeId} {x y : Operand} {v : Value} (hF : FR m fr a) (h : evR P fr A ty (.binOp op t x y yt) = some v) :
    ∃ v', (do eqGuard op t x y (a.eval x) (a.eval y); binOp op t (a.eval x) (a.eval y) : Sem Value).run P w = .ok v' w ∧ VR m v v' := by
  simp only [evR] at h
  split at h
  rotate_left
  · cases h
  rename_i u s hx hy
  have hu := opnd_vr hF hx
  have hs := opnd_vr hF hy
  generalize a.eval x = u' at *
  generalize a.eval y = s' at *
  have plain : ∀ {r : Value}, plainOp P (do eqGuard op t x y u s; binOp op t u s) = some r → u' = u → s' = s →
      ∃ v', (do eqGuard op t x y u' s'; binOp op t u' s' : Sem Value).run P w = .ok v' w ∧ VR m r v' := by
    intro r hr e1 e2
    subst e1; subst e2
    obtain ⟨h1, h2⟩ := plainOp_ok (w := w) (m := m) hr
    exact ⟨r, h1, h2⟩
  unfold binV at h
  split at h
  · rename_i k m1 j n1
    cases hu
    cases hs
    split at h
    · rename_i v0 hv0
      obtain ⟨hk, hi⟩ := bif_some' hv0
      have := kEq_eq hk
      subst this
      simp only [Option.some.injEq] at h
      subst h
      refine ⟨v0, ?_, ?_⟩
      · simp only [Sem.run_bind, run_eqGuard_addr (P := P) (w := w) (op := op) (t := t) (x := x) (y := y) (u := .int k m1) (v := .int k n1) (by intros; simp_all) (by intros; simp_all), Result.andThen_ok]
        exact intBin_ok hi
      · cases op <;> simp only [intBin, Option.some.injEq] at hi <;> (try cases hi) <;> constructor
    · exact plain h rfl rfl
  · rcases bif_some h with ⟨hp, h⟩ | ⟨_, h⟩
    · obtain ⟨p1, p2⟩ := and_true hp
      exact plain h (hu.plain p1) (hs.plain p2)
    · split at h
      · split at h
        · rename_i r hr
          simp only [Option.some.injEq] at h
          subst h
          exact ⟨.bool r, (nilEq_bin (w := w) hr hu hs).1, .bool _⟩
        · cases h
      · split at h
        · rename_i r hr
          simp only [Option.some.injEq] at h
          subst h
          exact ⟨.bool (!r), (nilEq_bin (w := w) hr hu hs).2, .bool _⟩
        · cases h
      · cases h

theorem ok_un {op : UnOp} {t ty : TypeId} {x : Operand} {v : Value} (hF : FR m fr a) (h : evR P fr A ty (.unOp op t x) = some v) :
    ∃ v', (Op.unary op (a.eval x)).run P w = .ok v' w ∧ VR m v v' := by
  simp only [evR] at h
  split at h
  · rename_i b hx
    have hu := opnd_vr hF hx
    generalize a.eval x = u' at *
    cases hu
    split at h
    · simp only [Option.some.injEq] at h
      subst h
      exact ⟨_, by simp [Op.unary], .bool _⟩
    · cases h
  · rename_i v0 _ hx
    have hu := opnd_vr hF hx
    obtain ⟨hp, h⟩ := bif_some' h
    rw [hu.plain hp]
    obtain ⟨h1, h2⟩ := plainOp_ok (w := w) (m := m) h
    exact ⟨v, h1, h2⟩
  · cases h

theorem ok_sliceToArrayPointer {arr ty : TypeId} {x : Operand} {v : Value} (hF : FR m fr a) (h : evR P fr A ty (.sliceToArrayPointer arr x) = some v) :
    ∃ v', (Instr.arrayAt arr (a.eval x)).run P w = .ok v' w ∧ VR m v v' := by
  simp only [evR] at h
  split at h
  · rename_i n e ad len cap hu hx
    have hv := opnd_vr hF hx
    generalize a.eval x = u' at *
    obtain ⟨hn, h⟩ := bif_some' h
    obtain ⟨h0, hn⟩ := and_true hn
    have h0 := blt_true h0
    have hn := ble_true hn
    simp only [Option.some.injEq] at h
    subst h
    cases hv with
    | sliceNil => omega
    | slice hm hc hl ha =>
      rcases ha with rfl | hz
      · exact ⟨_, by simp [Instr.arrayAt, run_underlying hu]; omega, .ptr hm⟩
      · omega
  · cases h

theorem ok_makeInterface {t ty : TypeId} {x : Operand} {v : Value} (hF : FR m fr a) (h : evR P fr A ty (.makeInterface t x) = some v) :
    ∃ v', (Instr.makeInterface t (a.eval x)).run P w = .ok v' w ∧ VR m v v' := by
  simp only [evR] at h
  split at h
  · cases h
  · rename_i d v0 hni hu hx
    simp only [Option.some.injEq] at h
    subst h
    refine ⟨_, ?_, .iface t (opnd_vr hF hx)⟩
    simp only [Instr.makeInterface, Sem.run_bind, run_underlying hu, Result.andThen_ok]
    rfl
  · cases h

theorem ok_makeFunc {fn : Fn} {first captured : Array Operand} {ty : TypeId} {v : Value} (hF : FR m fr a) (h : evR P fr A ty (.makeFunc fn first captured) = some v) :
    ∃ v', (Instr.makeFunc fn (first.map a.eval) (captured.map a.eval)).run P w = .ok v' w ∧ VR m v v' := by
  simp only [evR] at h
  split at h
  · rename_i xs ys hx hy
    have hn : Fn.noYield fn ∧ v = .func fn ⟨xs⟩ ⟨ys⟩ := by
      cases fn <;> simp only [Option.some.injEq] at h <;> first | (cases h; done) | exact ⟨trivial, h.symm⟩
    obtain ⟨hn, rfl⟩ := hn
    refine ⟨_, rfl, ?_⟩
    have e : ∀ z : Array Operand, z.map a.eval = ⟨z.toList.map a.eval⟩ := fun z => by apply Array.ext'; simp
    rw [e, e]
    exact .func hn (opnds_vr hF hx) (opnds_vr hF hy)
  · cases h

theorem ok_fieldAddr {s ty : TypeId} {x : Operand} {f : Nat} {v : Value} (hF : FR m fr a) (h : evR P fr A ty (.fieldAddr s x f) = some v) :
    ∃ v', (Instr.fieldAt s (a.eval x) f).run P w = .ok v' w ∧ VR m v v' := by
  simp only [evR] at h
  split at h
  · rename_i b o off hx hfi
    have hv := opnd_vr hF hx
    generalize a.eval x = u' at *
    simp only [Option.some.injEq] at h
    subst h
    unfold fieldInfo at hfi
    split at hfi
    · rename_i fields hu
      split at hfi
      · rename_i fd hfd
        split at hfi
        · rename_i i hi
          rcases bif_some hfi with ⟨_, h⟩ | ⟨hz, h⟩
          · cases h
          · simp only [Option.some.injEq] at h
            subst h
            have hz : i.size ≠ 0 := fun e => by rw [e] at hz; simp at hz
            cases hv
            rename_i l hm
            refine ⟨.pointer (some ⟨l.blk, l.off + (o + fd.offset), none⟩), ?_, .ptr hm⟩
            simp [Instr.fieldAt, run_underlying hu, hfd, Instr.sureAddr, fieldPlace, run_sizeOf hi, hz, addr_add, Nat.add_assoc]
        · cases hfi
      · cases hfi
    · cases hfi
  · cases h

theorem partOf_vr {t : TypeId} {vi : Bool × Nat} (hvi : varInfo P t = some vi) {cs cs' : List Value} (hc : VRs m cs cs') {off : Nat} {v : Value} (h : partOf cs off vi = some v) :
    ∃ v', (part t ⟨cs'⟩ off).run P w = .ok v' w ∧ VR m v v' := by
  obtain ⟨g, n⟩ := vi
  obtain ⟨h1, i, h2, h3⟩ := varInfo_some hvi
  cases g with
  | true =>
    simp only [partOf, Option.some.injEq] at h
    subst h
    refine ⟨.agg ⟨(cs'.drop off).take n⟩, ?_, .agg ((hc.drop off).take n)⟩
    simp only [part, Sem.run_bind, run_isAgg h1, Result.andThen_ok, if_true, run_sizeOf h2, Sem.run_pure, h3]
    congr 2
    apply Array.ext'
    simp [List.extract_eq_take_drop]
  | false =>
    simp only [partOf] at h
    obtain ⟨v', h4, h5⟩ := hc.get off (head_drop h)
    exact ⟨v', by simp [part, run_isAgg h1, h4], h5⟩

theorem ok_field {t ty : TypeId} {x : Operand} {f : Nat} {v : Value} (hF : FR m fr a) (h : evR P fr A ty (.field t x f) = some v) :
    ∃ v', (Instr.field t (a.eval x) f).run P w = .ok v' w ∧ VR m v v' := by
  simp only [evR] at h
  split at h
  · rename_i cs off gn hx hfi
    have hv := opnd_vr hF hx
    generalize a.eval x = u' at *
    unfold fieldPart at hfi
    split at hfi
    · rename_i fields hu
      split at hfi
      · rename_i fd hfd
        split at hfi
        · rename_i g n hvi
          simp only [Option.some.injEq, Prod.mk.injEq] at hfi
          obtain ⟨rfl, rfl⟩ := hfi
          cases hv with
          | agg hc =>
            obtain ⟨v', h1, h2⟩ := partOf_vr (w := w) hvi hc h
            exact ⟨v', by simp [Instr.field, run_underlying hu, hfd, asAgg, h1], h2⟩
        · cases hfi
      · cases hfi
    · cases hfi
  · cases h

theorem ok_extract {x : Operand} {i : Nat} {ty : TypeId} {v : Value} (hF : FR m fr a) (h : evR P fr A ty (.extract x i) = some v) :
    ∃ v', (Instr.extract (a.eval x) i).run P w = .ok v' w ∧ VR m v v' := by
  simp only [evR] at h
  split at h
  · rename_i vs hx
    have hv := opnd_vr hF hx
    generalize a.eval x = u' at *
    cases hv with
    | tuple hc =>
      obtain ⟨v', h1, h2⟩ := hc.get i h
      exact ⟨v', by simp [Instr.extract, h1], h2⟩
  · cases h

theorem ok_typeAssert {t asserted ty : TypeId} {x : Operand} {ok : Bool} {v : Value} (hF : FR m fr a) (h : evR P fr A ty (.typeAssert x t asserted ok) = some v) :
    ∃ v', (Instr.typeAssert (a.eval x) t asserted ok).run P w = .ok v' w ∧ VR m v v' := by
  simp only [evR] at h
  split at h
  · cases h
  · rename_i d t0 v0 hni hu hx
    have hv := opnd_vr hF hx
    generalize a.eval x = u' at *
    have hh := bif_some' h
    clear h
    obtain ⟨he, h⟩ := hh
    have he' := beq_true he
    clear he
    subst he'
    simp only [Option.some.injEq] at h
    subst h
    cases hv with
    | iface _ hv =>
      rename_i v'
      cases ok with
      | true =>
        refine ⟨.tuple ⟨[v', .bool true]⟩, ?_, .tuple (.cons hv (.cons (.bool _) .nil))⟩
        cases d <;> first | exact (hni _ rfl).elim | simp [Instr.typeAssert, run_underlying hu]
      | false =>
        refine ⟨v', ?_, hv⟩
        cases d <;> first | exact (hni _ rfl).elim | simp [Instr.typeAssert, run_underlying hu]
  · cases h

theorem natOf_some {v : Value} {n : Nat} (h : natOf v = some n) : ∃ k, v = .int k (.ofNat n) := by
  unfold natOf at h
  split at h
  · rename_i k j
    simp only [Option.some.injEq] at h
    subst h
    exact ⟨k, rfl⟩
  · cases h

theorem ok_indexAddr {t ty : TypeId} {x ix : Operand} {v : Value} (hF : FR m fr a) (h : evR P fr A ty (.indexAddr t x ix) = some v) :
    ∃ v', (Instr.indexAt t (a.eval x) (a.eval ix)).run P w = .ok v' w ∧ VR m v v' := by
  simp only [evR] at h
  split at h
  · rename_i b o k i hx hi
    have hv := opnd_vr hF hx
    have hiv := opnd_vr hF hi
    generalize a.eval x = u' at *
    generalize a.eval ix = i' at *
    split at h
    · rename_i n e hu
      obtain ⟨hlt, h⟩ := bif_some' h
      have hlt := blt_true hlt
      split at h
      · rename_i inf hinf
        simp only [Option.some.injEq] at h
        subst h
        cases hiv
        cases hv
        rename_i l hm
        refine ⟨.pointer (some ⟨l.blk, l.off + (o + i * inf.size), none⟩), ?_, .ptr hm⟩
        simp [Instr.indexAt, asIntOf, run_underlying hu, Instr.sureAddr, run_sizeOf hinf, addr_add, Nat.add_assoc]
        omega
      · cases h
    · cases h
  · rename_i b o len cap k i hx hi
    have hv := opnd_vr hF hx
    have hiv := opnd_vr hF hi
    generalize a.eval x = u' at *
    generalize a.eval ix = i' at *
    split at h
    · rename_i e hu
      obtain ⟨hlt, h⟩ := bif_some' h
      have hlt := blt_true hlt
      split at h
      · rename_i inf hinf
        simp only [Option.some.injEq] at h
        subst h
        cases hiv
        have key : ∀ (l : Loc), m b = some l → ∀ c', (Instr.indexAt t (.slice (some ⟨l.blk, l.off + o, none⟩) len c') (.int k (Int.ofNat i))).run P w = .ok (.pointer (some ⟨l.blk, l.off + (o + i * inf.size), none⟩)) w := by
          intro l hm c'
          simp [Instr.indexAt, asIntOf, run_underlying hu, run_sizeOf hinf, addr_add, Nat.add_assoc]
          omega
        cases hv with
        | slice hm hc hl ha =>
          rcases ha with rfl | h0
          · exact ⟨_, key _ hm _, .ptr hm⟩
          · omega
      · cases h
    · cases h
  · cases h

theorem ok_index {t ty : TypeId} {x ix : Operand} {v : Value} (hF : FR m fr a) (h : evR P fr A ty (.index t x ix) = some v) :
    ∃ v', (Instr.index t (a.eval x) (a.eval ix)).run P w = .ok v' w ∧ VR m v v' := by
  simp only [evR] at h
  split at h
  · rename_i cs k i hx hi
    have hv := opnd_vr hF hx
    have hiv := opnd_vr hF hi
    generalize a.eval x = u' at *
    generalize a.eval ix = i' at *
    split at h
    · rename_i n e hu
      obtain ⟨hlt, h⟩ := bif_some' h
      have hlt := blt_true hlt
      split at h
      · rename_i g s hvi
        cases hiv
        cases hv with
        | agg hc =>
          obtain ⟨v', h1, h2⟩ := partOf_vr (w := w) hvi hc h
          obtain ⟨_, inf, h3, h4⟩ := varInfo_some hvi
          have : (Int.ofNat i) < (n : Int) := by simpa using hlt
          have h0 : (0 : Int) ≤ Int.ofNat i := by simp
          refine ⟨v', ?_, h2⟩
          simp only [Instr.index, asIntOf, Sem.run_bind, Sem.run_pure, Result.andThen_ok, run_underlying hu, h0, this, and_self, if_true, run_sizeOf h3, h4]
          exact h1
      · cases h
    · cases h
  · rename_i s k i hx hi
    have hv := opnd_vr hF hx
    have hiv := opnd_vr hF hi
    generalize a.eval x = u' at *
    generalize a.eval ix = i' at *
    split at h
    · rename_i hu
      split at h
      · rename_i b hb
        simp only [Option.some.injEq] at h
        subst h
        cases hiv
        cases hv
        refine ⟨_, ?_, .int .u8 _⟩
        have hb' : s[i]? = some b := by
          have hlt : i < s.data.toList.length := by
            rcases Nat.lt_or_ge i s.data.toList.length with h | h
            · exact h
            · rw [List.getElem?_eq_none h] at hb; cases hb
          have hlt' : i < s.size := by simpa using hlt
          rw [List.getElem?_eq_getElem hlt] at hb
          simp only [Option.some.injEq] at hb
          subst hb
          rw [getElem?_pos s i hlt']
          rfl
        have h0 : (0 : Int) ≤ Int.ofNat i := by simp
        simp only [Instr.index, asIntOf, Sem.run_bind, Sem.run_pure, Result.andThen_ok, run_underlying hu, h0, if_true]
        simp [hb']
      · cases h
    · cases h
  · cases h
end
end Ev
end Go
namespace Go
namespace Ev
section
variable {P : Program} {m : Mp} {A : AW} {w : World} {fr : AFr} {a : Act}

theorem bytesOf_eq : ∀ {r : List Value} {l : List UInt8}, bytesOf r = some l → r = l.map fun b => .int .u8 (b.toNat : Int)
  | [], l, h => by simp only [bytesOf, Option.some.injEq] at h; subst h; rfl
  | v :: r, l, h => by
    unfold bytesOf at h
    split at h
    · rename_i heq
      cases heq
    · rename_i n r0 heq
      simp only [List.cons.injEq] at heq
      obtain ⟨rfl, rfl⟩ := heq
      obtain ⟨hn, h⟩ := bif_some' h
      have hn := blt_true hn
      split at h
      · rename_i l0 h0
        simp only [Option.some.injEq] at h
        subst h
        have := bytesOf_eq h0
        rw [List.map_cons, ← this]
        congr 2
        show (n : Int) = ((UInt8.ofNat n).toNat : Int)
        simp
        omega
      · cases h
    · cases h
theorem vrs_bytes : ∀ {l : List UInt8} {r' : List Value}, VRs m (l.map fun b => Value.int .u8 (b.toNat : Int)) r' → r' = l.map fun b => Value.int .u8 (b.toNat : Int)
  | [], _, .nil => rfl
  | _ :: _, _, .cons hv hl => by
    cases hv
    rw [vrs_bytes hl]
    rfl

theorem ok_convert {src dst ty : TypeId} {x : Operand} {v : Value} (hO : Objs P m A w) (hF : FR m fr a) (h : evR P fr A ty (.convert src dst x) = some v) :
    ∃ v', (convert src dst (a.eval x)).run P w = .ok v' w ∧ VR m v v' := by
  simp only [evR] at h
  split at h
  · rename_i d0 k kk n hs hd hx
    have hv := opnd_vr hF hx
    generalize a.eval x = u' at *
    simp only [Option.some.injEq] at h
    subst h
    cases hv
    exact ⟨_, by simp [convert, run_underlying hs, run_underlying hd, Conv.intToInt, wrapF_eq], .int _ _⟩
  · rename_i d0 s hs hd hx
    have hv := opnd_vr hF hx
    generalize a.eval x = u' at *
    simp only [Option.some.injEq] at h
    subst h
    cases hv
    exact ⟨_, by simp [convert, run_underlying hs, run_underlying hd], .string _⟩
  · rename_i e l c hs hd hx
    have hv := opnd_vr hF hx
    generalize a.eval x = u' at *
    split at h
    · rename_i he
      simp only [Option.some.injEq] at h
      subst h
      cases hv
      exact ⟨_, by rw [run_convert_bytes_string w src dst e _ _ _ hs he hd]; simp [Conv.bytesToString], .string _⟩
    · cases h
  · rename_i e b o len cap hs hd hx
    have hv := opnd_vr hF hx
    generalize a.eval x = u' at *
    split at h
    · rename_i c el he hg
      split at h
      · rename_i r hc
        split at h
        · rename_i l hl
          simp only [Option.some.injEq] at h
          subst h
          have hrl := bytesOf_eq hl
          have hlen : l.length = len := by
            have := (cut_some hc).2
            rw [hrl] at this
            simpa using this
          have key : ∀ (lo : Loc), m b = some lo → ∀ c', (convert src dst (.slice (some ⟨lo.blk, lo.off + o, none⟩) len c')).run P w = .ok (.string ⟨⟨l⟩⟩) w := by
            intro lo hm c'
            obtain ⟨r', h1, h2, h3⟩ := objs_row hO hg hm hc
            rw [hrl] at h1
            have hr' := vrs_bytes h1
            rw [← hlen]
            refine run_convert_bytes_back w src dst e _ c' l hs he hd fun j hj => ?_
            refine h3 j _ ?_
            rw [hr']
            simp [hj]
          cases hv with
          | slice hm hcc hle ha =>
            rcases ha with rfl | h0
            · exact ⟨_, key _ hm _, .string _⟩
            · -- no cell of it is known: it is empty
              have : len = 0 := by omega
              subst this
              obtain rfl : l = [] := List.eq_nil_of_length_eq_zero hlen
              refine ⟨.string ⟨⟨[]⟩⟩, ?_, .string _⟩
              exact run_convert_bytes_back w src dst e _ _ [] hs he hd (by simp)
        · cases h
      · cases h
    · cases h
  · cases h

theorem optOpnd_vr (hF : FR m fr a) {x : Option Operand} {v : Option Value} (h : optOpnd fr x = some v) : (v = none ∧ x.map a.eval = none) ∨ ∃ u u', v = some u ∧ x.map a.eval = some u' ∧ VR m u u' := by
  cases x with
  | none => simp only [optOpnd, Option.some.injEq] at h; subst h; exact .inl ⟨rfl, rfl⟩
  | some x =>
    simp only [optOpnd] at h
    cases h1 : opnd fr x with
    | none => simp [h1] at h
    | some u =>
      simp [h1] at h
      subst h
      exact .inr ⟨u, a.eval x, rfl, rfl, opnd_vr hF h1⟩

def OptR (m : Mp) (v v' : Option Value) : Prop := (v = none ∧ v' = none) ∨ ∃ u u', v = some u ∧ v' = some u' ∧ VR m u u'

theorem run_natBound {u u' : Value} {n y : Nat} (hv : VR m u u') (h : natOf u = some n) (hy : n ≤ y) (code : BoundsCode) : (Instr.sliceBound u' y code).run P w = .ok n w := by
  obtain ⟨k, rfl⟩ := natOf_some h
  cases hv
  rw [run_sliceBound w k (Int.ofNat n) y code (by simp) (by simpa using hy)]
  rfl

theorem bounds_run {isSlice : Bool} {len cap cap' l h mm : Nat} {lo hi mx lo' hi' mx' : Option Value} (hb : bounds len cap lo hi mx = some (l, h, mm))
    (hlo : OptR m lo lo') (hhi : OptR m hi hi') (hmx : OptR m mx mx') (hc1 : mx = none → h ≤ cap') (hc2 : mx ≠ none → mm ≤ cap') :
    (Instr.sliceBounds isSlice len cap' lo' hi' mx').run P w = .ok (l, h, if mx.isSome then mm else cap') w ∧ l ≤ h ∧ h ≤ mm ∧ mm ≤ cap := by
  unfold bounds at hb
  split at hb
  · cases hb
  · rename_i m0 hm0
    obtain ⟨hmc, hb⟩ := bif_some' hb
    have hmc := ble_true hmc
    split at hb
    · cases hb
    · rename_i h0 hh0
      obtain ⟨hhm, hb⟩ := bif_some' hb
      have hhm := ble_true hhm
      split at hb
      · cases hb
      · rename_i l0 hl0
        obtain ⟨hlh, hb⟩ := bif_some' hb
        have hlh := ble_true hlh
        simp only [Option.some.injEq, Prod.mk.injEq] at hb
        obtain ⟨rfl, rfl, rfl⟩ := hb
        refine ⟨?_, hlh, hhm, hmc⟩
        unfold Instr.sliceBounds
        rcases hmx with ⟨rfl, rfl⟩ | ⟨um, um', rfl, rfl, hum⟩
        · -- without a third bound
          have hc := hc1 rfl
          simp only [Option.some.injEq] at hm0
          subst hm0
          rcases hhi with ⟨rfl, rfl⟩ | ⟨uh, uh', rfl, rfl, huh⟩
          · simp only [Option.some.injEq] at hh0
            subst hh0
            rcases hlo with ⟨rfl, rfl⟩ | ⟨ul, ul', rfl, rfl, hul⟩
            · simp only [Option.some.injEq] at hl0
              subst hl0
              simp
            · have := run_natBound (P := P) (w := w) hul hl0 hlh (if (none : Option Value).isSome then .slice3C else .sliceB)
              simp at this
              simp [this]
          · have e1 := run_natBound (P := P) (w := w) huh hh0 hc (if isSlice then .sliceAcap else .sliceAlen)
            rcases hlo with ⟨rfl, rfl⟩ | ⟨ul, ul', rfl, rfl, hul⟩
            · simp only [Option.some.injEq] at hl0
              subst hl0
              simp [e1]
            · have := run_natBound (P := P) (w := w) hul hl0 hlh (if (none : Option Value).isSome then .slice3C else .sliceB)
              simp at this
              simp [e1, this]
        · have hc := hc2 (by simp)
          have e0 := run_natBound (P := P) (w := w) hum hm0 hc (if isSlice then .slice3Acap else .slice3Alen)
          rcases hhi with ⟨rfl, rfl⟩ | ⟨uh, uh', rfl, rfl, huh⟩
          · cases hh0
          · have e1 := run_natBound (P := P) (w := w) huh hh0 hhm .slice3B
            rcases hlo with ⟨rfl, rfl⟩ | ⟨ul, ul', rfl, rfl, hul⟩
            · simp only [Option.some.injEq] at hl0
              subst hl0
              simp [e0, e1]
            · have := run_natBound (P := P) (w := w) hul hl0 hlh (if (some um' : Option Value).isSome then .slice3C else .sliceB)
              simp at this
              simp [e0, e1, this]

theorem bounds_le {len cap l h mm : Nat} {lo hi mx : Option Value} (hb : bounds len cap lo hi mx = some (l, h, mm)) : h ≤ mm ∧ mm ≤ cap ∧ (mx = none → mm = cap) ∧ l ≤ h := by
  unfold bounds at hb
  split at hb
  · cases hb
  · rename_i m0 hm0
    obtain ⟨hmc, hb⟩ := bif_some' hb
    have hmc := ble_true hmc
    split at hb
    · cases hb
    · rename_i h0 hh0
      obtain ⟨hhm, hb⟩ := bif_some' hb
      have hhm := ble_true hhm
      split at hb
      · cases hb
      · rename_i l0 hl0
        obtain ⟨hlh, hb⟩ := bif_some' hb
        simp only [Option.some.injEq, Prod.mk.injEq] at hb
        obtain ⟨rfl, rfl, rfl⟩ := hb
        refine ⟨hhm, hmc, fun hn => ?_, ble_true hlh⟩
        subst hn
        simp only [Option.some.injEq] at hm0
        exact hm0.symm

theorem isElastic_true {c : Nat} (h : isElastic c = true) : 2 ^ 61 ≤ c := ble_true h

theorem notElastic_le {c d : Nat} (h : isElastic c = false) (hd : d ≤ c) : isElastic d = false := by
  unfold isElastic at *
  rw [Bool.eq_false_iff] at *
  intro hh
  have := ble_true hh
  exact h (by simpa using Nat.le_trans this hd)

theorem ok_slice {t ty : TypeId} {x : Operand} {lo hi mx : Option Operand} {v : Value} (hO : Objs P m A w) (hF : FR m fr a) (h : evR P fr A ty (.slice t x lo hi mx) = some v) :
    ∃ v', (Instr.sliceAt t (a.eval x) (lo.map a.eval) (hi.map a.eval) (mx.map a.eval)).run P w = .ok v' w ∧ VR m v v' := by
  simp only [evR] at h
  split at h
  rotate_left
  · cases h
  rename_i u lo0 hi0 mx0 hx hlo hhi hmx
  have hu := opnd_vr hF hx
  have rlo : OptR m lo0 (lo.map a.eval) := optOpnd_vr hF hlo
  have rhi : OptR m hi0 (hi.map a.eval) := optOpnd_vr hF hhi
  have rmx : OptR m mx0 (mx.map a.eval) := optOpnd_vr hF hmx
  generalize a.eval x = u' at *
  generalize lo.map a.eval = lo' at *
  generalize hi.map a.eval = hi' at *
  generalize mx.map a.eval = mx' at *
  unfold sliceV at h
  split at h
  · -- an array behind its address
    rename_i n elem ad hut
    obtain ⟨hne, h⟩ := bif_some' h
    obtain ⟨_, hne⟩ := and_true hne
    have hne : isElastic n = false := by simpa using hne
    split at h
    · rename_i l hh mm i hb hi
      simp only [Option.some.injEq] at h
      subst h
      cases hu
      rename_i b o lc hm
      have hle := bounds_le hb
      obtain ⟨e, h1, h2, h3⟩ := bounds_run (P := P) (w := w) (isSlice := false) (cap' := n) hb rlo rhi rmx (fun _ => Nat.le_trans hle.1 hle.2.1) (fun _ => hle.2.1)
      have em : (if mx0.isSome then mm else n) = mm := by
        cases mx0 with
        | none => simp [hle.2.2.1 rfl]
        | some _ => simp
      rw [em] at e
      have ev := notElastic_le hne (show mm - l ≤ n by omega)
      refine ⟨.slice (some (if mm = l then ⟨lc.blk, lc.off + o, none⟩ else ⟨lc.blk, lc.off + (o + l * i.size), none⟩)) (hh - l) (mm - l), ?_, ?_⟩
      · simp only [Instr.sliceAt, Sem.run_bind, run_underlying hut, Result.andThen_ok, Instr.sureAddr, Sem.run_pure, e, run_sizeOf hi, addr_add, Nat.add_assoc]
      · by_cases hml : mm = l
        · have hb' : Nat.beq mm l = true := by simp [hml]
          rw [if_pos hml, hb']
          exact .slice hm (.inl ⟨ev, rfl⟩) (by omega) (.inl rfl)
        · have hb' : Nat.beq mm l = false := by rw [Bool.eq_false_iff]; simpa using hml
          rw [if_neg hml, hb']
          exact .slice hm (.inl ⟨ev, rfl⟩) (by omega) (.inl rfl)
    · cases h
  · -- a string
    rename_i s hut
    split at h
    · cases h
    · split at h
      · rename_i l hh mm hb
        simp only [Option.some.injEq] at h
        subst h
        cases hu
        have hle := bounds_le hb
        rcases rmx with ⟨_, rfl⟩ | ⟨_, _, h0, _⟩
        · obtain ⟨e, h1, h2, h3⟩ := bounds_run (P := P) (w := w) (isSlice := false) (cap' := s.size) hb rlo rhi (.inl ⟨rfl, rfl⟩) (fun _ => Nat.le_trans hle.1 hle.2.1) (fun _ => hle.2.1)
          refine ⟨.string (s.extract l hh), ?_, .string _⟩
          rw [run_sliceAt_string w t _ _ _ _ hut]
          simp [Instr.slice, run_underlying hut, e]
        · cases h0
      · cases h
  · -- nil
    rename_i e0 len cap hut
    have het : P.elem t = e0 := by simp [Program.elem, hut]
    split at h
    · rename_i l hh mm i0 hb hinf
      simp only [Option.some.injEq] at h
      subst h
      cases hu
      have hle := bounds_le hb
      obtain ⟨e, h1, h2, h3⟩ := bounds_run (P := P) (w := w) (isSlice := true) (cap' := 0) hb rlo rhi rmx (fun _ => Nat.le_trans hle.1 hle.2.1) (fun _ => hle.2.1)
      have em : (if mx0.isSome then mm else 0) = 0 := by split <;> omega
      rw [em] at e
      obtain rfl : mm = 0 := by omega
      obtain rfl : hh = 0 := by omega
      obtain rfl : l = 0 := by omega
      have hi : P.info? e0 = some i0 := hinf
      have hut' : P.underlying t = some (.slice (P.elem t)) := by rw [het]; exact hut
      refine ⟨.slice none 0 0, ?_, .sliceNil⟩
      rw [run_sliceAt_slice w t _ _ _ _ hut', run_slice_any w t none 0 0 hut' lo' hi' mx', e, het]
      simp [run_sizeOf hi, sliced]
    · cases h
  · rename_i e0 ad len cap hut
    have het : P.elem t = e0 := by simp [Program.elem, hut]
    split at h
    · rename_i l hh mm i hb hi
      have hle := bounds_le hb
      unfold shift at h
      have hut' : P.underlying t = some (.slice (P.elem t)) := by rw [het]; exact hut
      have runs : ∀ (a' : Addr) (cap' : Nat), (mx0 = none → hh ≤ cap') → (mx0 ≠ none → mm ≤ cap') →
          (Instr.sliceAt t (.slice (some a') len cap') lo' hi' mx').run P w = .ok (.slice (some (if (if mx0.isSome then mm else cap') = l then a' else a'.add (l * i.size))) (hh - l) ((if mx0.isSome then mm else cap') - l)) w := by
        intro a' cap' hc1 hc2
        obtain ⟨e, h1, h2, h3⟩ := bounds_run (P := P) (w := w) (isSlice := true) (cap' := cap') hb rlo rhi rmx hc1 hc2
        rw [run_sliceAt_slice w t _ _ _ _ hut', run_slice_any w t (some a') len cap' hut' lo' hi' mx', e, het]
        simp only [Result.andThen_ok, run_sizeOf hi, sliced]
        cases mx0 <;> simp <;> split <;> rfl
      rcases bif_some h with ⟨hel, h⟩ | ⟨hel, h⟩
      · -- elastic
        split at h
        · rename_i c e hg
          obtain ⟨hq, h⟩ := bif_some' h
          obtain ⟨hq, hq3⟩ := and_true hq
          obtain ⟨hq1, hq2⟩ := and_true hq
          have hq1 := beq_true hq1
          have hq2 := blt_true hq2
          have hq3 := ble_true hq3
          obtain ⟨b, o, lc, c', a', rfl, rfl, hm, hc, hl, ha⟩ := hu.slice_inv
          rcases hc with ⟨he, _⟩ | ⟨he, hc⟩
          · rw [he] at hel; cases hel
          obtain ⟨hsz, hlim, _⟩ := hO b _ lc hg hm
          rw [hq1] at hsz
          rw [hsz] at hc
          have hfit : ∀ k, o + k * i.size ≤ c.length → k ≤ c' := fun k hk => by
            have h1 : k * i.size ≤ c' * i.size := by omega
            exact Nat.le_of_mul_le_mul_right h1 hq2
          cases mx0 with
          | some um =>
            simp only [Option.isSome_some, cond_true] at h hq3
            rcases bif_some h with ⟨_, h⟩ | ⟨hne, h⟩
            · cases h
            simp only [Option.some.injEq] at h
            subst h
            have hmc := hfit mm hq3
            have hr := runs a' c' (by simp) (fun _ => hmc)
            simp only [Option.isSome_some, if_true] at hr
            refine ⟨_, hr, ?_⟩
            have ev := notElastic_le hne (show mm - l ≤ mm by omega)
            by_cases hml : mm = l
            · have hb' : Nat.beq mm l = true := by simp [hml]
              rw [if_pos hml, hb']
              exact .slice hm (.inl ⟨ev, rfl⟩) (by omega) (.inr (by omega))
            · have hb' : Nat.beq mm l = false := by rw [Bool.eq_false_iff]; simpa using hml
              rw [if_neg hml, hb']
              refine .slice hm (.inl ⟨ev, rfl⟩) (by omega) ?_
              rcases ha with rfl | h0
              · left; rw [addr_add, Nat.add_assoc]
              · right; omega
          | none =>
            simp only [Option.isSome_none, cond_false] at h hq3
            obtain ⟨hee, h⟩ := bif_some' h
            simp only [Option.some.injEq] at h
            subst h
            have hhc := hfit hh hq3
            have hr := runs a' c' (fun _ => hhc) (by simp)
            simp only [Option.isSome_none, Bool.false_eq_true, if_false] at hr
            refine ⟨_, hr, ?_⟩
            refine .slice hm (.inr ⟨hee, ?_⟩) (by omega) ?_
            · rw [hsz, Nat.add_assoc, ← Nat.add_mul, show l + (c' - l) = c' by omega]
              exact hc
            · by_cases hcl : c' = l
              · right; omega
              · rw [if_neg hcl]
                rcases ha with rfl | h0
                · left; rw [addr_add, Nat.add_assoc]
                · right; omega
        · cases h
      · simp only [Option.some.injEq] at h
        subst h
        obtain ⟨b, o, lc, c', a', rfl, rfl, hm, hc, hl, ha⟩ := hu.slice_inv
        rcases hc with ⟨he, hcc⟩ | ⟨he, hc⟩
        · subst hcc
          have ev := notElastic_le he (show mm - l ≤ c' by omega)
          have em : (if mx0.isSome then mm else c') = mm := by
            cases mx0 with
            | none => simp [hle.2.2.1 rfl]
            | some _ => simp
          have hr := runs a' c' (fun _ => Nat.le_trans hle.1 hle.2.1) (fun _ => hle.2.1)
          rw [em] at hr
          refine ⟨_, hr, ?_⟩
          by_cases hml : mm = l
          · have hb' : Nat.beq mm l = true := by simp [hml]
            rw [if_pos hml, hb']
            exact .slice hm (.inl ⟨ev, rfl⟩) (by omega) (by rcases ha with rfl | h0; exact .inl rfl; exact .inr (by omega))
          · have hb' : Nat.beq mm l = false := by rw [Bool.eq_false_iff]; simpa using hml
            rw [if_neg hml, hb']
            refine .slice hm (.inl ⟨ev, rfl⟩) (by omega) ?_
            rcases ha with rfl | h0
            · left; rw [addr_add, Nat.add_assoc]
            · right; omega
        · rw [he] at hel; cases hel
    · cases h
  · cases h
end
end Ev
end Go
namespace Go
namespace Ev
section
variable {P : Program}

theorem semPure_bind {α β : Type} : ∀ (x : Sem α) (f : α → Sem β), semPure P (x.bind f) = (semPure P x).bind fun a => semPure P (f a) := by
  intro x f
  induction x with
  | pure a => rfl
  | program k ih => exact ih P
  | _ => rfl
theorem semPure_bind' {α β : Type} (x : Sem α) (f : α → Sem β) : semPure P (x >>= f) = (semPure P x).bind fun a => semPure P (f a) := semPure_bind x f
theorem semPure_pure {α : Type} (a : α) : semPure P (pure a : Sem α) = some a := rfl

def strip (e : MapEntry) : MapEntry := { key := e.key, val := undef, born := e.born }

theorem findNow_strip (kind : TypeDesc) (k : Value) : ∀ (es : List MapEntry) (i : Nat) (r : Option (Nat × Value)), Instr.findNow kind k (es.map strip) i = some r →
    (r = none ∧ Instr.findNow kind k es i = some none) ∨ ∃ j e, r = some (i + j, undef) ∧ es[j]? = some e ∧ Instr.findNow kind k es i = some (some (i + j, e.val))
  | [], i, r, h => by
    simp only [List.map_nil, Instr.findNow, Option.some.injEq] at h
    exact .inl ⟨h.symm, rfl⟩
  | e :: es, i, r, h => by
    simp only [List.map_cons, Instr.findNow, strip] at h ⊢
    cases hs : Instr.sameNow kind k e.key with
    | none => simp [hs] at h
    | some b =>
      cases b with
      | true =>
        simp [hs] at h
        exact .inr ⟨0, e, by simp [← h], by simp, by simp⟩
      | false =>
        simp only [hs] at h ⊢
        rcases findNow_strip kind k es (i + 1) r h with ⟨h1, h2⟩ | ⟨j, e', h1, h2, h3⟩
        · exact .inl ⟨h1, h2⟩
        · exact .inr ⟨j + 1, e', by rw [h1]; congr 2; omega, by simpa using h2, by rw [h3]; congr 3; omega⟩

theorem findNow_strip_none (kind : TypeDesc) (k : Value) : ∀ (es : List MapEntry) (i : Nat), Instr.findNow kind k (es.map strip) i = none → Instr.findNow kind k es i = none
  | [], i, h => by simp [Instr.findNow] at h
  | e :: es, i, h => by
    simp only [List.map_cons, Instr.findNow, strip] at h ⊢
    cases hs : Instr.sameNow kind k e.key with
    | none => rfl
    | some b =>
      cases b with
      | true => simp [hs] at h
      | false =>
        simp only [hs] at h ⊢
        exact findNow_strip_none kind k es (i + 1) h

theorem findAsking_strip (kt : TypeId) (k : Value) : ∀ (es : List MapEntry) (i : Nat) (r : Option (Nat × Value)), semPure P (Instr.findAsking kt k (es.map strip) i) = some r →
    (r = none ∧ semPure P (Instr.findAsking kt k es i) = some none) ∨ ∃ j e, r = some (i + j, undef) ∧ es[j]? = some e ∧ semPure P (Instr.findAsking kt k es i) = some (some (i + j, e.val))
  | [], i, r, h => by
    simp only [List.map_nil, Instr.findAsking, semPure_pure, Option.some.injEq] at h
    exact .inl ⟨h.symm, rfl⟩
  | e :: es, i, r, h => by
    simp only [List.map_cons, Instr.findAsking, strip, semPure_bind'] at h ⊢
    cases hs : semPure P (Op.equal kt k e.key) with
    | none => simp [hs] at h
    | some b =>
      simp only [hs, Option.bind_some] at h ⊢
      cases b with
      | true =>
        simp only [if_true, semPure_pure, Option.some.injEq] at h ⊢
        exact .inr ⟨0, e, by simp [← h], by simp, by simp⟩
      | false =>
        simp only [Bool.false_eq_true, if_false] at h ⊢
        rcases findAsking_strip kt k es (i + 1) r h with ⟨h1, h2⟩ | ⟨j, e', h1, h2, h3⟩
        · exact .inl ⟨h1, h2⟩
        · exact .inr ⟨j + 1, e', by rw [h1]; congr 2; omega, by simpa using h2, by rw [h3]; congr 3; omega⟩

theorem findKey_strip (kt : TypeId) (k : Value) (es : List MapEntry) (r : Option (Nat × Value)) (h : semPure P (Instr.findKey kt k (es.map strip)) = some r) :
    (r = none ∧ semPure P (Instr.findKey kt k es) = some none) ∨ ∃ j e, r = some (j, undef) ∧ es[j]? = some e ∧ semPure P (Instr.findKey kt k es) = some (some (j, e.val)) := by
  simp only [Instr.findKey, semPure_bind'] at h ⊢
  cases hu : semPure P (underlying kt) with
  | none => simp [hu] at h
  | some d =>
    simp only [hu, Option.bind_some] at h ⊢
    cases hn : Instr.findNow d k (es.map strip) 0 with
    | none =>
      simp only [hn] at h
      rw [findNow_strip_none d k es 0 hn]
      rcases findAsking_strip kt k es 0 r h with ⟨h1, h2⟩ | ⟨j, e', h1, h2, h3⟩
      · exact .inl ⟨h1, h2⟩
      · exact .inr ⟨j, e', by simpa using h1, h2, by simpa using h3⟩
    | some r0 =>
      simp only [hn, semPure_pure, Option.some.injEq] at h
      subst h
      rcases findNow_strip d k es 0 r0 hn with ⟨h1, h2⟩ | ⟨j, e', h1, h2, h3⟩
      · rw [h2]; exact .inl ⟨h1, rfl⟩
      · rw [h3]; exact .inr ⟨j, e', by simpa using h1, h2, by simp [semPure_pure]⟩

variable {m : Mp} {A : AW} {w : World} {fr : AFr} {a : Act}

theorem ers_keys : ∀ {es : List Ent} {es' : List MapEntry} (_ : ERs m es es'), es.all (fun e => vPlain e.key) = true → keysOf es = es'.map strip
  | _, _, .nil, _ => rfl
  | _, _, .cons (e := e) (e' := e') he hl, h => by
    simp only [List.all_cons, Bool.and_eq_true] at h
    have h1 := ers_keys hl h.2
    simp only [keysOf, List.map_cons] at h1 ⊢
    rw [h1]
    congr 1
    have hk : e'.key = e.key := he.key.plain h.1
    have hb : e'.born = e.born := he.born
    simp only [strip, hk, hb]
theorem ers_get : ∀ {es : List Ent} {es' : List MapEntry} (_ : ERs m es es') (i : Nat) {e' : MapEntry}, es'[i]? = some e' → ∃ e, es[i]? = some e ∧ ER m e (toEnt e')
  | _, _, .nil, i, e', h => by simp at h
  | _, _, .cons he hl, 0, e', h => by simp at h; subst h; exact ⟨_, rfl, he⟩
  | _, _, .cons he hl, i + 1, e', h => by
    simp at h
    obtain ⟨e, h1, h2⟩ := ers_get hl i h
    exact ⟨e, by simpa using h1, h2⟩
theorem ers_length : ∀ {es : List Ent} {es' : List MapEntry} (_ : ERs m es es'), es'.length = es.length
  | _, _, .nil => rfl
  | _, _, .cons _ hl => by simp [ers_length hl]

/-- What the search for a key comes to. -/
theorem findE_ok {empty : Bool} {kt : TypeId} {k k' : Value} {es : List Ent} {es' : List MapEntry} {r : Option Nat} (h : findE P empty kt k es = some r) (hk : VR m k k') (he : ERs m es es') :
    k' = k ∧ ∃ fr : Option (Nat × Value), (Instr.checkKey empty 10000 kt k).run P w = .ok () w ∧ (Instr.findKey kt k es').run P w = .ok fr w ∧
      ((r = none ∧ fr = none) ∨ ∃ i e e', r = some i ∧ es[i]? = some e ∧ es'[i]? = some e' ∧ ER m e (toEnt e') ∧ fr = some (i, e'.val)) := by
  unfold findE at h
  obtain ⟨hp, h⟩ := bif_some' h
  obtain ⟨hp1, hp2⟩ := and_true hp
  refine ⟨hk.plain hp1, ?_⟩
  rw [ers_keys he hp2] at h
  simp only [semPure_bind'] at h
  cases hc : semPure P (Instr.checkKey empty 10000 kt k) with
  | none => simp [hc] at h
  | some u =>
    simp only [hc, Option.bind_some] at h
    cases hf : semPure P (Instr.findKey kt k (es'.map strip)) with
    | none => simp [hf] at h
    | some q =>
      simp only [hf, Option.bind_some] at h
      rcases findKey_strip kt k es' q hf with ⟨rfl, h2⟩ | ⟨j, e', rfl, h2, h3⟩
      · simp only [semPure_pure, Option.some.injEq] at h
        exact ⟨none, semPure_run _ _ w hc, semPure_run _ _ w h2, .inl ⟨h.symm, rfl⟩⟩
      · simp only [semPure_pure, Option.some.injEq] at h
        obtain ⟨e, h4, h5⟩ := ers_get he j h2
        exact ⟨_, semPure_run _ _ w hc, semPure_run _ _ w h3, .inr ⟨j, e, e', h.symm, h4, h2, h5, rfl⟩⟩

theorem mapT_some {t kt et : TypeId} (h : mapT P t = some (kt, et)) : P.underlying t = some (.map kt et) := by
  unfold mapT at h
  split at h
  · rename_i k e hu
    simp only [Option.some.injEq, Prod.mk.injEq] at h
    obtain ⟨rfl, rfl⟩ := h
    exact hu
  · cases h

theorem run_getObj {r : Nat} {o : Obj} (h : w.heap[r]? = some o) (hn : ∀ c e f, o ≠ .cells c e f) : (getObj r).run P w = .ok o w := by
  simp only [getObj, Sem.run, h]

theorem emptyEq {es : Array MapEntry} {es0 : List Ent} (h : es.toList.length = es0.length) : es.isEmpty = es0.isEmpty := by
  have hs : es.size = es0.length := by simpa using h
  cases es0 with
  | nil => simp at hs; simp [Array.isEmpty, hs]
  | cons e l => simp at hs; simp [Array.isEmpty, hs]

theorem run_zeroValue {t : TypeId} {z : Value} (h : zeroOf P t = some z) : (zeroValue t).run P w = .ok z w := by
  obtain ⟨i, h1, h2, _⟩ := zeroOf_some h
  simp [zeroValue, typeInfo, h1, h2]

theorem ok_lookup {t ty : TypeId} {x ix : Operand} {ok : Bool} {v : Value} (hO : Objs P m A w) (hF : FR m fr a) (h : evR P fr A ty (.lookup t x ix ok) = some v) :
    ∃ v', (Instr.lookup t (a.eval x) (a.eval ix) ok).run P w = .ok v' w ∧ VR m v v' := by
  simp only [evR] at h
  split at h
  rotate_left
  · cases h
  rename_i kt et r k hmt hx hk
  have hu := mapT_some hmt
  have hxv := opnd_vr hF hx
  have hkv := opnd_vr hF hk
  generalize a.eval x = x' at *
  generalize a.eval ix = k' at *
  split at h
  · cases h
  rename_i es hes
  split at h
  · -- found
    rename_i i z hfe hz
    split at h
    · rename_i e he
      simp only [Option.some.injEq] at h
      subst h
      cases hxv with
      | mapNil =>
        simp only [Option.some.injEq] at hes
        subst hes
        simp at he
      | map hm =>
        rename_i r0 l
        simp only at hes
        split at hes
        · rename_i es0 clock hg
          simp only [Option.some.injEq] at hes
          subst hes
          obtain ⟨_, es', ho, hers⟩ := hO r0 _ l hg hm
          obtain ⟨rfl, fr', hc, hf, hr⟩ := findE_ok (w := w) hfe hkv hers
          rcases hr with ⟨h0, _⟩ | ⟨i', e1, e', h1, h2, h3, h4, rfl⟩
          · cases h0
          · simp only [Option.some.injEq] at h1
            subst h1
            rw [he] at h2
            simp only [Option.some.injEq] at h2
            subst h2
            have hemp := emptyEq (ers_length hers)
            have hval : VR m e.val e'.val := h4.val
            cases ok with
            | true =>
              refine ⟨.tuple ⟨[e'.val, .bool true]⟩, ?_, .tuple (.cons hval (.cons (.bool _) .nil))⟩
              simp [Instr.lookup, run_underlying hu, run_getObj ho, hemp, hc, hf]
            | false =>
              refine ⟨e'.val, ?_, hval⟩
              simp [Instr.lookup, run_underlying hu, run_getObj ho, hemp, hc, hf]
        · cases hes
    · cases h
  · -- not found
    rename_i z hfe hz
    simp only [Option.some.injEq] at h
    subst h
    have hzz := run_zeroValue (w := w) hz
    obtain ⟨_, _, _, hzp⟩ := zeroOf_some hz
    cases hxv with
    | mapNil =>
      simp only [Option.some.injEq] at hes
      subst hes
      obtain ⟨rfl, fr', hc, hf, hr⟩ := findE_ok (w := w) hfe hkv .nil
      rcases hr with ⟨_, rfl⟩ | ⟨i', e1, e', h1, _⟩
      · cases ok with
        | true =>
          refine ⟨.tuple ⟨[z, .bool false]⟩, ?_, .tuple (.cons (.refl_plain m _ hzp) (.cons (.bool _) .nil))⟩
          simp at hc
          simp [Instr.lookup, run_underlying hu, hc, hf, hzz]
        | false =>
          refine ⟨z, ?_, .refl_plain m _ hzp⟩
          simp at hc
          simp [Instr.lookup, run_underlying hu, hc, hf, hzz]
      · cases h1
    | map hm =>
      rename_i r0 l
      simp only at hes
      split at hes
      · rename_i es0 clock hg
        simp only [Option.some.injEq] at hes
        subst hes
        obtain ⟨_, es', ho, hers⟩ := hO r0 _ l hg hm
        obtain ⟨rfl, fr', hc, hf, hr⟩ := findE_ok (w := w) hfe hkv hers
        rcases hr with ⟨_, rfl⟩ | ⟨i', e1, e', h1, _⟩
        · have hemp := emptyEq (ers_length hers)
          cases ok with
          | true =>
            refine ⟨.tuple ⟨[z, .bool false]⟩, ?_, .tuple (.cons (.refl_plain m _ hzp) (.cons (.bool _) .nil))⟩
            simp [Instr.lookup, run_underlying hu, run_getObj ho, hemp, hc, hf, hzz]
          | false =>
            refine ⟨z, ?_, .refl_plain m _ hzp⟩
            simp [Instr.lookup, run_underlying hu, run_getObj ho, hemp, hc, hf, hzz]
        · cases h1
      · cases hes
  · cases h
end
end Ev
end Go
namespace Go
namespace Ev
section
variable {P : Program} {m : Mp} {A : AW} {w : World} {fr : AFr} {a : Act}

theorem ers_find {f : Ent → Bool} {g : MapEntry → Bool} : ∀ {es : List Ent} {es' : List MapEntry} (_ : ERs m es es') (_ : ∀ e e', ER m e (toEnt e') → g e' = f e) {e : Ent}, es.find? f = some e →
    ∃ e', es'.find? g = some e' ∧ ER m e (toEnt e')
  | _, _, .nil, _, e, h => by simp at h
  | _, _, .cons (e := e0) (e' := e0') he hl, hfg, e, h => by
    simp only [List.find?_cons] at h ⊢
    rw [hfg e0 e0' he]
    cases hf : f e0 with
    | true =>
      simp only [hf, Option.some.injEq] at h
      subst h
      exact ⟨e0', rfl, he⟩
    | false =>
      simp only [hf] at h
      exact ers_find hl hfg h

theorem ok_entry {x : Operand} {ty : TypeId} {v : Value} (hO : Objs P m A w) (hF : FR m fr a) (h : evR P fr A ty (.entry x) = some v) :
    ∃ v', (Instr.entry (a.eval x)).run P w = .ok v' w ∧ VR m v v' := by
  simp only [evR] at h
  split at h
  rotate_left
  · cases h
  rename_i r hx
  have hxv := opnd_vr hF hx
  generalize a.eval x = x' at *
  split at h
  rotate_left
  · cases h
  rename_i mm since seen stepped hg
  split at h
  rotate_left
  · cases h
  rename_i stamp es clock hs hgm
  obtain ⟨hcs, h⟩ := bif_some' h
  have hcs := beq_true hcs
  split at h
  rotate_left
  · cases h
  rename_i e hf
  simp only [Option.some.injEq] at h
  subst h
  cases hxv
  rename_i l hm
  obtain ⟨h0, mp', ho, hmp⟩ := hO r _ l hg hm
  rcases hmp with ⟨hn, _⟩ | ⟨r2, lr, hr2, hmr, hmp⟩
  · cases hn
  · simp only [Option.some.injEq] at hr2
    subst hr2
    subst hmp
    obtain ⟨_, es', ho2, hers⟩ := hO mm _ lr hgm hmr
    obtain ⟨e', h1, h2⟩ := ers_find (g := fun e => e.born == stamp) hers (fun e e' hee => by
      have : e'.born = e.born := hee.born
      rw [this, Bool.eq_iff_iff]
      simp) hf
    refine ⟨.tuple ⟨[e'.key, e'.val]⟩, ?_, .tuple (.cons h2.key (.cons h2.val .nil))⟩
    have hback : (⟨seen⟩ : Array Nat).back? = some stamp := by
      rw [List.head?_reverse] at hs
      simpa [Array.back?_eq_getElem?, List.getLast?_eq_getElem?] using hs
    have hfind : es'.find? (fun x => x.born == stamp) = some e' := by
      rw [← Array.find?_toList]
      exact h1
    have hloc : (⟨l.blk, l.off + 0, none⟩ : Addr) = ⟨l.blk, 0, none⟩ := by rw [h0]
    rw [hloc]
    simp [Instr.entry, run_getObj ho, run_getObj ho2, hback, hcs, hfind]

theorem opnds_two {args : Array Operand} {x : Value} {l : List Value} (h : opnds fr args.toList = some (x :: l)) (hF : FR m fr a) : ∃ x' l', args.map a.eval = ⟨x' :: l'⟩ ∧ VR m x x' ∧ VRs m l l' := by
  have := opnds_vr hF h
  cases hh : args.toList.map a.eval with
  | nil => rw [hh] at this; cases this
  | cons x' l' =>
    rw [hh] at this
    cases this with
    | cons h1 h2 =>
      refine ⟨x', l', ?_, h1, h2⟩
      apply Array.ext'
      simpa using hh

theorem ok_builtin {b : Builtin} {args : Array Operand} {argTypes : Array TypeId} {ty : TypeId} {v : Value} {consts : Array Bool} (hO : Objs P m A w) (hF : FR m fr a)
    (h : evR P fr A ty (.call { callee := .builtin b, args, argTypes }) = some v) :
    ∃ v', (builtin b argTypes ty consts (args.map a.eval)).run P w = .ok (.value v') w ∧ VR m v v' := by
  simp only [evR] at h
  split at h
  · -- len
    rename_i t tl x xl htl hargs
    obtain ⟨x', l', hax, hxv, hl⟩ := opnds_two hargs hF
    have hat : argTypes[0]? = some t := by
      have : argTypes.toList[0]? = some t := by rw [htl]; rfl
      simpa using this
    have ha0 : (args.map a.eval)[0]? = some x' := by rw [hax]; rfl
    have key : ∀ {n : Nat}, (Builtin.len_ argTypes ty (args.map a.eval)).run P w = .ok (goInt n) w → v = .int .i64 (.ofNat n) →
        ∃ v', (builtin .len argTypes ty consts (args.map a.eval)).run P w = .ok (.value v') w ∧ VR m v v' := by
      intro n hr hv
      subst hv
      exact ⟨goInt n, by simp [builtin, hr], .int _ _⟩
    split at h
    · rename_i s hu
      simp only [Option.some.injEq] at h
      refine key (n := s.size) ?_ h.symm
      cases hxv
      simp [Builtin.len_, hat, ha0, run_underlying hu]
    · rename_i n e hu
      simp only [Option.some.injEq] at h
      refine key (n := n) ?_ h.symm
      simp [Builtin.len_, hat, ha0, run_underlying hu]
    · rename_i e bb n c hu
      simp only [Option.some.injEq] at h
      refine key (n := n) ?_ h.symm
      cases hxv <;> simp [Builtin.len_, hat, ha0, run_underlying hu]
    · rename_i kt et hu
      simp only [Option.some.injEq] at h
      refine key (n := 0) ?_ h.symm
      cases hxv
      simp [Builtin.len_, hat, ha0, run_underlying hu]
    · rename_i kt et r hu
      split at h
      · rename_i es clock hg
        simp only [Option.some.injEq] at h
        refine key (n := es.length) ?_ h.symm
        cases hxv
        rename_i l hm
        obtain ⟨_, es', ho2, hers⟩ := hO r _ l hg hm
        have : es'.size = es.length := by simpa using ers_length hers
        simp [Builtin.len_, hat, ha0, run_underlying hu, run_getObj ho2, this]
      · cases h
    · cases h
  · -- cap
    rename_i t tl x xl htl hargs
    obtain ⟨x', l', hax, hxv, hl⟩ := opnds_two hargs hF
    have hat : argTypes[0]? = some t := by
      have : argTypes.toList[0]? = some t := by rw [htl]; rfl
      simpa using this
    have ha0 : (args.map a.eval)[0]? = some x' := by rw [hax]; rfl
    split at h
    · rename_i e bb n c hu
      rcases bif_some h with ⟨_, h⟩ | ⟨hel, h⟩
      · cases h
      simp only [Option.some.injEq] at h
      subst h
      cases hxv with
      | sliceNil => exact ⟨goInt 0, by simp [builtin, Builtin.cap_, hat, ha0, run_underlying hu], .int _ _⟩
      | slice hm hc hle hab =>
        rcases hc with ⟨_, rfl⟩ | ⟨he, _⟩
        · exact ⟨_, by simp [builtin, Builtin.cap_, hat, ha0, run_underlying hu]; rfl, .int _ _⟩
        · rw [he] at hel; cases hel
    · cases h
  · rename_i vs hargs
    obtain ⟨hp, h⟩ := bif_some' h
    have hvs := opnds_vr hF hargs
    have : args.map a.eval = ⟨vs⟩ := by
      apply Array.ext'
      simpa using hvs.plain hp
    obtain ⟨h1, h2⟩ := plainOp_ok (w := w) (m := m) h
    exact ⟨v, by simp [builtin, this, h1], h2⟩
  · rename_i vs hargs
    obtain ⟨hp, h⟩ := bif_some' h
    have hvs := opnds_vr hF hargs
    have : args.map a.eval = ⟨vs⟩ := by
      apply Array.ext'
      simpa using hvs.plain hp
    obtain ⟨h1, h2⟩ := plainOp_ok (w := w) (m := m) h
    exact ⟨v, by simp [builtin, this, h1], h2⟩
  · cases h

theorem run_valued {s : Sem Value} {v' : Value} {w' : World} (h : s.run P w = .ok v' w') : (do pure (Next.value (← s)) : Sem Next).run P w = .ok (.value v') w' := by
  simp [h]

/-- **WHAT READS, OR NOTHING AT ALL.** -/
theorem evR_ok {o : Oper} {v : Value} (hO : Objs P m A w) (hF : FR m fr a) (h : evR P fr A o.type o.op = some v) :
    ∃ v', (execOp a.eval o).run P w = .ok (.value v') w ∧ VR m v v' := by
  obtain ⟨dst, op, type, pos, after, guard⟩ := o
  have val : ∀ {s : Sem Value}, (∃ v', s.run P w = .ok v' w ∧ VR m v v') → ∃ v', (do pure (Next.value (← s)) : Sem Next).run P w = .ok (.value v') w ∧ VR m v v' :=
    fun ⟨v', h1, h2⟩ => ⟨v', run_valued h1, h2⟩
  cases op
  case move x => exact ⟨_, rfl, opnd_vr hF h⟩
  case assign x => exact ⟨_, rfl, opnd_vr hF h⟩
  case pick c x y => exact ok_pick hF h
  case build t ps => exact val (ok_build hF h)
  case load t x => exact val (ok_load hO hF h)
  case nilCheck x =>
    simp only [evR] at h
    split at h
    · rename_i ad hx
      have hv := opnd_vr hF hx
      simp only [Option.some.injEq] at h
      subst h
      simp only [execOp]
      generalize a.eval x = x' at *
      cases hv with
      | ptr hm => exact ⟨_, rfl, .ptr hm⟩
    · cases h
  case binOp op t x y yt => exact val (ok_bin hF h)
  case unOp op t x => exact val (ok_un hF h)
  case convert s d x => exact val (ok_convert hO hF h)
  case sliceToArrayPointer t x => exact val (ok_sliceToArrayPointer hF h)
  case makeInterface t x => exact val (ok_makeInterface hF h)
  case makeFunc f x y => exact val (ok_makeFunc hF h)
  case slice t x l hh mm => exact val (ok_slice hO hF h)
  case fieldAddr s x f => exact val (ok_fieldAddr hF h)
  case field t x f => exact val (ok_field hF h)
  case indexAddr t x i => exact val (ok_indexAddr hF h)
  case index t x i => exact val (ok_index hF h)
  case lookup t x i ok => exact val (ok_lookup hO hF h)
  case entry x => exact val (ok_entry hO hF h)
  case typeAssert x t u ok => exact val (ok_typeAssert hF h)
  case extract x i => exact val (ok_extract hF h)
  case call c =>
    obtain ⟨callee, args, argTypes⟩ := c
    cases callee
    case builtin b =>
      obtain ⟨v', h1, h2⟩ := ok_builtin hO hF h
      refine ⟨v', ?_, h2⟩
      simp only [execOp, resolve, Sem.run_bind, Sem.run_pure, Result.andThen_ok, invoke]
      exact h1
    all_goals simp [evR] at h
  all_goals simp [evR] at h
end
end Ev
end Go
