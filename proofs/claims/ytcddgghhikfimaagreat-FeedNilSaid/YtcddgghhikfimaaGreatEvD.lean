/-
  The same evaluator in stages, for the kernel; calls that are known; laws without arguments.
-/
import Derived.Test.YtcddgghhikfimaaGreatEvC
import Derived.Lib.Mul64
import Derived.ProofKit
import Derived.OpenShut
namespace Go
namespace Ev
section
variable {P : Program} {m : Mp} {A A0 A1 : AW} {w w' : World} {f : FuncId}

theorem emp_get (n i : Nat) : (⟨.e, n⟩ : AW).get i = none := rfl
theorem hr_emp (w : World) : HR P (fun _ => none) ⟨.e, 0⟩ w :=
  ⟨Nat.zero_le _, fun i o h => (by rw [emp_get] at h; cases h), fun i l h => (by cases h), fun i j oi oj li lj h => (by rw [emp_get] at h; cases h), fun i o l h => (by rw [emp_get] at h; cases h)⟩

/-- What lies elsewhere is as it was. -/
theorem hr_kept (hH : HR P m A w) (hh : ∀ i o l, A.get i = some o → m i = some l → w'.heap[l.blk]? = w.heap[l.blk]?) : HR P m A w' :=
  ⟨hH.top, hH.live, hH.dom, hH.inj, fun i o l hi hm => (hH.obj i o l hi hm).mono (Mp.le_refl m) (hh i o l hi hm)⟩

/-- **A call of plain values, with a plain answer, known in the empty world, is known in each.** -/
theorem call_pure {args : List Value} {v : Value} (h : CallAt P f args ⟨.e, 0⟩ v A1) (ha : vPlains args = true) (hp : vPlain v = true) : CallAt P f args A v A := by
  intro m args' w hH hv R hR
  have e := VRs.plain hv ha
  refine h (fun _ => none) args' w (hr_emp w) (by rw [e]; exact VRs.refl_plain _ _ ha) R fun m' v' w' h1 h2 h3 => ?_
  have ev := VR.plain h3 hp
  have hno : ∀ r, ¬ Owned ⟨.e, 0⟩ (fun _ => none) r := fun r ⟨i, o, l, hi, _⟩ => by rw [emp_get] at hi; cases hi
  refine hR m v' w' (hr_kept hH fun i o l hi hm => (h2.frame _ (hH.blk_lt hi hm) (hno _)).1) ⟨Mp.le_refl m, Nat.le_refl _, fun i l h4 h5 => (by rw [h4] at h5; cases h5), h2.size, fun r hr hn => ⟨(h2.frame r hr (hno r)).1, hn⟩, h2.tape, h2.os, h2.out⟩ ?_
  rw [ev]
  exact VR.refl_plain m v hp

/-- Two blocks alone. -/
noncomputable def two (c : List Value) (e : TypeId) (d : List Value) (e' : TypeId) : AW := ⟨((T4.e).put fuel4 (some (.cells c e)) 0).put fuel4 (some (.cells d e')) 1, 2⟩
theorem two_get (c : List Value) (e : TypeId) (d : List Value) (e' : TypeId) (i : Nat) :
    (two c e d e').get i = if i = 1 then some (.cells d e') else if i = 0 then some (.cells c e) else none := by
  unfold two AW.get
  rw [get_put4 _ 1 i _ (by decide), get_put4 _ 0 i _ (by decide), T4.get_e]

theorem plains_get : ∀ {l : List Value}, vPlains l = true → ∀ (i : Nat) (v : Value), l[i]? = some v → vPlain v = true
  | [], _, i, v, h => by simp at h
  | x :: l, hp, i, v, h => by
    simp only [vPlains] at hp
    obtain ⟨h1, h2⟩ := and_true hp
    cases i with
    | zero => simp at h; subst h; exact h1
    | succ i => exact plains_get h2 i v (by simpa using h)

theorem objr_plain {m m' : Mp} {hp : Array Obj} {c : List Value} {e : TypeId} {l : Loc} (hc : vPlains c = true) (h : ObjR P m hp (.cells c e) l) : ObjR P m' hp (.cells c e) l := by
  obtain ⟨h1, h2, C, e', fz, h3, h4, h5, h6⟩ := h
  refine ⟨h1, h2, C, e', fz, h3, h4, h5, fun i v hv => ?_⟩
  obtain ⟨v', h7, h8⟩ := h6 i v hv
  have := plains_get hc i v hv
  exact ⟨v', h7, by rw [VR.plain h8 this]; exact VR.refl_plain m' v this⟩

open Classical in
/-- **A call that turns the one of two rows of plain cells, and reads the other, known where nothing else is, is known in each world.** -/
theorem call_two {c c1 d : List Value} {e e' : TypeId} {o len cap : Nat} {v : Value} {b b2 : Nat} (h : CallAt P f [.pointer (some ⟨0, 0, none⟩), .slice (some ⟨1, o, none⟩) len cap] (two c e d e') v A1)
    (h0 : A1.get 0 = some (.cells c1 e)) (h1 : A1.get 1 = some (.cells d e')) (hc : vPlains c = true) (hc1 : vPlains c1 = true) (hd : vPlains d = true) (hp : vPlain v = true)
    (hb : A.get b = some (.cells c e)) (hb2 : A.get b2 = some (.cells d e')) (hne : b ≠ b2) :
    CallAt P f [.pointer (some ⟨b, 0, none⟩), .slice (some ⟨b2, o, none⟩) len cap] A v (A.set b (.cells c1 e)) := by
  intro m args' w hH hv R hR
  obtain ⟨args'⟩ := args'
  simp only at hv
  cases hv with
  | cons hx hv =>
    rename_i x' l1
    cases hv with
    | cons hy hv =>
      rename_i y' l2
      cases hv
      cases hx with
      | ptr hmb =>
        rename_i lb
        cases hy with
        | slice hmb2 hcc hl ha =>
          rename_i cc lb2 aa
          have g2 := two_get c e d e'
          have hsome : ∀ {i : Nat} {ob : AObj}, (two c e d e').get i = some ob → (i = 0 ∧ ob = .cells c e) ∨ (i = 1 ∧ ob = .cells d e') := fun {i ob} hi => by
            rw [g2] at hi
            split at hi
            · rename_i q; simp only [Option.some.injEq] at hi; exact .inr ⟨q, hi.symm⟩
            · split at hi
              · rename_i q; simp only [Option.some.injEq] at hi; exact .inl ⟨q, hi.symm⟩
              · cases hi
          have hbl : lb.blk ≠ lb2.blk := fun hh => hne (hH.inj b b2 _ _ lb lb2 hb hb2 hmb hmb2 hh)
          let m0 : Mp := fun i => if i = 0 then some lb else if i = 1 then some lb2 else none
          have m00 : m0 0 = some lb := rfl
          have m01 : m0 1 = some lb2 := rfl
          have hm0 : ∀ {i l}, m0 i = some l → (i = 0 ∧ l = lb) ∨ (i = 1 ∧ l = lb2) := fun {i l} hi => by
            simp only [m0] at hi
            split at hi
            · rename_i q; simp only [Option.some.injEq] at hi; exact .inl ⟨q, hi.symm⟩
            · split at hi
              · rename_i q; simp only [Option.some.injEq] at hi; exact .inr ⟨q, hi.symm⟩
              · cases hi
          have hH0 : HR P m0 (two c e d e') w := by
            refine ⟨(show 2 ≤ top4 by decide), fun i ob hi => ?_, fun i l hi => ?_, fun i j oi oj li lj hi hj hmi hmj hq => ?_, fun i ob l hi hmi => ?_⟩
            · rcases hsome hi with ⟨q, _⟩ | ⟨q, _⟩ <;> rw [q] <;> change _ < 2 <;> omega
            · rcases hm0 hi with ⟨q, _⟩ | ⟨q, _⟩ <;> rw [q] <;> change _ < 2 <;> omega
            · rcases hm0 hmi with ⟨q1, q2⟩ | ⟨q1, q2⟩ <;> rcases hm0 hmj with ⟨q3, q4⟩ | ⟨q3, q4⟩
              · rw [q1, q3]
              · rw [q2, q4] at hq; exact absurd hq hbl
              · rw [q2, q4] at hq; exact absurd hq.symm hbl
              · rw [q1, q3]
            · rcases hsome hi with ⟨q1, q2⟩ | ⟨q1, q2⟩
              · rw [q1, m00] at hmi
                simp only [Option.some.injEq] at hmi
                subst hmi
                rw [q2]
                exact objr_plain hc (hH.obj b _ _ hb hmb)
              · rw [q1, m01] at hmi
                simp only [Option.some.injEq] at hmi
                subst hmi
                rw [q2]
                exact objr_plain hd (hH.obj b2 _ _ hb2 hmb2)
          refine h m0 _ w hH0 (.cons (.ptr m00) (.cons (.slice m01 hcc hl ha) .nil)) R fun m' v' w' q1 q2 q3 => ?_
          have ev := VR.plain q3 hp
          have k0 := q2.le _ _ m00
          have k1 := q2.le _ _ m01
          have o0 := q1.obj 0 _ _ h0 k0
          have o1 := q1.obj 1 _ _ h1 k1
          have hown : ∀ r, ¬ Owned A m r → ¬ Owned (two c e d e') m0 r := fun r hno ⟨i, ob, l, hi, hmi, hq⟩ => by
            rcases hm0 hmi with ⟨_, q⟩ | ⟨_, q⟩ <;> subst q
            · exact hno ⟨b, _, _, hb, hmb, hq⟩
            · exact hno ⟨b2, _, _, hb2, hmb2, hq⟩
          have hbt := Nat.lt_of_lt_of_le (hH.live b _ hb) hH.top
          have hget := fun i => get_set (A := A) (.cells c1 e) i hbt
          have hdom : ∀ {i ob}, (A.set b (.cells c1 e)).get i = some ob → ∃ ob', A.get i = some ob' := fun {i ob} hi => by
            rw [hget] at hi
            split at hi
            · rename_i q; rw [q]; exact ⟨_, hb⟩
            · exact ⟨_, hi⟩
          refine hR m v' w' ⟨hH.top, fun i ob hi => ?_, hH.dom, fun i j oi oj li lj hi hj hmi hmj hq => ?_, fun i ob l hi hmi => ?_⟩
            ⟨Mp.le_refl m, Nat.le_refl _, fun i l q4 q5 => (by rw [q4] at q5; cases q5), q2.size, fun r hr hno => ⟨(q2.frame r hr (hown r hno)).1, fun ⟨i, ob, l, hi, hmi, hq⟩ => ?_⟩, q2.tape, q2.os, q2.out⟩
            (by rw [ev]; exact VR.refl_plain m v hp)
          · obtain ⟨ob', hi'⟩ := hdom hi
            exact hH.live i ob' hi'
          · obtain ⟨_, hi'⟩ := hdom hi
            obtain ⟨_, hj'⟩ := hdom hj
            exact hH.inj i j _ _ li lj hi' hj' hmi hmj hq
          · rw [hget] at hi
            split at hi
            · rename_i q
              subst q
              rw [hmb] at hmi
              simp only [Option.some.injEq] at hi hmi
              subst hi
              subst hmi
              exact objr_plain hc1 o0
            · rename_i q
              by_cases q' : i = b2
              · subst q'
                rw [hb2] at hi
                rw [hmb2] at hmi
                simp only [Option.some.injEq] at hi hmi
                subst hi
                subst hmi
                exact objr_plain hd o1
              · refine (hH.obj i ob l hi hmi).mono (Mp.le_refl m) (q2.frame _ (hH.blk_lt hi hmi) fun ⟨i', ob', l', hi', hmi', hq⟩ => ?_).1
                rcases hm0 hmi' with ⟨_, z⟩ | ⟨_, z⟩ <;> subst z
                · exact q (hH.inj i b _ _ l _ hi hb hmi hmb hq.symm)
                · exact q' (hH.inj i b2 _ _ l _ hi hb2 hmi hmb2 hq.symm)
          · obtain ⟨ob', hi'⟩ := hdom hi
            exact hno ⟨i, ob', l, hi', hmi, hq⟩
end
end Ev
end Go
namespace Go
namespace Ev
noncomputable section

/-- What is made once, of the program's text. -/
inductive Box (α : Type) where
  | mk (a : α)

/-- A place in a table: the digits of its number. -/
inductive Pth where
  | z
  | a (p : Pth)
  | b (p : Pth)
  | c (p : Pth)
  | d (p : Pth)

def pathOf (fuel : Nat) : Nat → Pth :=
  Nat.rec (motive := fun _ => Nat → Pth) (fun _ => .z) (fun _ ih k =>
    Bool.rec (motive := fun _ => Pth)
      (Bool.rec (motive := fun _ => Pth) (Bool.rec (motive := fun _ => Pth) (.d (ih (Nat.div k 4))) (.c (ih (Nat.div k 4))) (Nat.beq (Nat.mod k 4) 2))
        (Bool.rec (motive := fun _ => Pth) (.b (ih (Nat.div k 4))) (.a (ih (Nat.div k 4))) (Nat.beq (Nat.mod k 4) 0)) (Nat.ble (Nat.mod k 4) 1))
      .z (Nat.beq k 0)) fuel

def getV (p : Pth) : T4 Value → Value :=
  Pth.rec (motive := fun _ => T4 Value → Value)
    (fun t => T4.rec (motive := fun _ => Value) undef (fun v _ _ _ _ _ _ _ _ => Option.rec (motive := fun _ => Value) undef (fun x => x) v) t)
    (fun _ ih t => T4.rec (motive := fun _ => Value) undef (fun _ a _ _ _ _ _ _ _ => ih a) t)
    (fun _ ih t => T4.rec (motive := fun _ => Value) undef (fun _ _ b _ _ _ _ _ _ => ih b) t)
    (fun _ ih t => T4.rec (motive := fun _ => Value) undef (fun _ _ _ c _ _ _ _ _ => ih c) t)
    (fun _ ih t => T4.rec (motive := fun _ => Value) undef (fun _ _ _ _ d _ _ _ _ => ih d) t) p

def putV (x : Value) (p : Pth) : T4 Value → T4 Value :=
  Pth.rec (motive := fun _ => T4 Value → T4 Value)
    (fun t => T4.rec (motive := fun _ => T4 Value) (.n (some x) .e .e .e .e) (fun _ a b c d _ _ _ _ => .n (some x) a b c d) t)
    (fun _ ih t => T4.rec (motive := fun _ => T4 Value) (.n none (ih .e) .e .e .e) (fun v a b c d _ _ _ _ => .n v (ih a) b c d) t)
    (fun _ ih t => T4.rec (motive := fun _ => T4 Value) (.n none .e (ih .e) .e .e) (fun v a b c d _ _ _ _ => .n v a (ih b) c d) t)
    (fun _ ih t => T4.rec (motive := fun _ => T4 Value) (.n none .e .e (ih .e) .e) (fun v a b c d _ _ _ _ => .n v a b (ih c) d) t)
    (fun _ ih t => T4.rec (motive := fun _ => T4 Value) (.n none .e .e .e (ih .e)) (fun v a b c d _ _ _ _ => .n v a b c (ih d)) t) p

/-- An operand. -/
inductive CO where
  | t (p : Pth)
  | k (v : Value)
  | bad

def co : Operand → CO
  | .tmp t => bif Nat.blt t top4 then .t (pathOf 41 t) else .bad
  | .const v => bif vPlain v then .k v else .bad
  | .global _ => .bad
  | .func f => .k (.func (.func f) #[] #[])

abbrev R := Option (AExit × AFr × AW)
abbrev F := Fns → AFr → AW → (Value → AW → R) → R

def oB {α : Type} (x : Option α) (f : α → R) : R := Option.rec (motive := fun _ => R) none f x
def bB (b : Bool) (y : R) : R := Bool.rec (motive := fun _ => R) none y b
def iB (b : Bool) (y z : R) : R := Bool.rec (motive := fun _ => R) z y b
def coB (c : CO) (fr : AFr) (f : Value → R) : R := CO.rec (motive := fun _ => R) (fun p => f (getV p fr.tmps)) f none c

/-- Where a result goes. -/
inductive CD where
  | no
  | at (d : Nat) (p : Pth)
  | bad

def cd : Option Tmp → CD
  | none => .no
  | some d => bif Nat.blt d top4 then .at d (pathOf 41 d) else .bad
def putB (c : CD) (v : Value) (fr : AFr) (g : AFr → R) : R :=
  CD.rec (motive := fun _ => R) (g fr) (fun d p => AFr.rec (motive := fun _ => R) (fun tm n ds => Bool.rec (motive := fun _ => R) none (g ⟨putV v p tm, n, ds⟩) (Nat.blt d n)) fr) none c

def asInt {α : Type} (v : Value) (d : α) (f : IntKind → Int → α) : α :=
  match v with
  | .int k n => f k n
  | _ => d
def asNat {α : Type} (v : Int) (d : α) (f : Nat → α) : α := Int.rec (motive := fun _ => α) f (fun _ => d) v
def asPtr {α : Type} (v : Value) (d : α) (f : Nat → Nat → α) : α :=
  match v with
  | .pointer (some ⟨b, o, none⟩) => f b o
  | _ => d

def wrapN (k : IntKind) (m : Nat) : Int :=
  match k with
  | .i64 => Bool.rec (motive := fun _ => Int) (IntKind.wrap .i64 (.ofNat m)) (.ofNat m) (Nat.blt m 9223372036854775808)
  | .u64 => Bool.rec (motive := fun _ => Int) (IntKind.wrap .u64 (.ofNat m)) (.ofNat m) (Nat.blt m 18446744073709551616)
  | .u8 => .ofNat (Nat.mod m 256)
  | .u32 => .ofNat (Nat.mod m 4294967296)
  | k => IntKind.wrap k (.ofNat m)

/-- Unsigned kinds whose bits can be told by a number. -/
def bound : IntKind → Nat
  | .u8 => 256
  | .u16 => 65536
  | .u32 => 4294967296
  | .u64 => 18446744073709551616
  | .i64 => 9223372036854775808
  | _ => 0

/-- Operations on two numbers of one kind, neither below zero. -/
def natBin (op : BinOp) : Option (IntKind → Nat → Nat → Option Value) :=
  match op with
  | .add => some fun k m n => some (.int k (wrapN k (Nat.add m n)))
  | .sub => some fun k m n => Bool.rec (motive := fun _ => Option Value) none (some (.int k (wrapN k (Nat.sub m n)))) (Nat.ble n m)
  | .mul => some fun k m n => some (.int k (wrapN k (Nat.mul m n)))
  | .eql => some fun _ m n => some (.bool (Nat.beq m n))
  | .neq => some fun _ m n => some (.bool (!Nat.beq m n))
  | .lss => some fun _ m n => some (.bool (Nat.blt m n))
  | .leq => some fun _ m n => some (.bool (Nat.ble m n))
  | .gtr => some fun _ m n => some (.bool (Nat.blt n m))
  | .geq => some fun _ m n => some (.bool (Nat.ble n m))
  | .and => some fun k m n => Bool.rec (motive := fun _ => Option Value) none (Bool.rec (motive := fun _ => Option Value) none (some (.int k (.ofNat (Nat.land m n)))) (Nat.blt n (bound k))) (Nat.blt m (bound k))
  | .or => some fun k m n => Bool.rec (motive := fun _ => Option Value) none (Bool.rec (motive := fun _ => Option Value) none (some (.int k (.ofNat (Nat.lor m n)))) (Nat.blt n (bound k))) (Nat.blt m (bound k))
  | .xor => some fun k m n => Bool.rec (motive := fun _ => Option Value) none (Bool.rec (motive := fun _ => Option Value) none (some (.int k (.ofNat (Nat.xor m n)))) (Nat.blt n (bound k))) (Nat.blt m (bound k))
  | _ => none

/-- Shifts. -/
def natShift (op : BinOp) : Option (IntKind → Nat → Nat → Option Value) :=
  match op with
  | .shl => some fun k m n => Bool.rec (motive := fun _ => Option Value) none (some (.int k (wrapN k (Nat.mul m (Nat.pow 2 n))))) (Nat.ble n k.bits)
  | .shr => some fun k m n => Bool.rec (motive := fun _ => Option Value) none (some (.int k (.ofNat (Nat.div m (Nat.pow 2 n))))) (Nat.ble n k.bits)
  | _ => none


def orV (d : Option Value) (x : Option Value) : Option Value := Option.rec (motive := fun _ => Option Value) d (fun v => some v) x

/-- An operation on two numbers of one kind; 'd' where they are not. -/
def binS (d : Option Value) (g : IntKind → Nat → Nat → Option Value) (a b : Value) : Option Value :=
  asInt a d fun k i => asInt b d fun j l => Bool.rec (motive := fun _ => Option Value) d (asNat i d fun m => asNat l d fun n => orV d (g k m n)) (kEq k j)
def shiftS (d : Option Value) (g : IntKind → Nat → Nat → Option Value) (a b : Value) : Option Value :=
  asInt a d fun k i => asInt b d fun _ l => asNat i d fun m => asNat l d fun n => orV d (g k m n)

/-- As it was. -/
def cFall (P : Program) (E : Env) (o : Oper) : F := fun ih fr A k => oB (evOp P E ih fr A o) fun r => Prod.rec (motive := fun _ => R) (fun v A' => k v A') r
def cMove (x : Operand) : F := fun _ fr A k => coB (co x) fr fun v => k v A

def cBin (P : Program) (op : BinOp) (t : TypeId) (x y : Operand) : Box F :=
  Option.rec (motive := fun _ => Box F)
    (Option.rec (motive := fun _ => Box F) (.mk fun _ fr A k => coB (co x) fr fun a => coB (co y) fr fun b => oB (binV P op t x y a b) fun v => k v A)
      (fun g => .mk fun _ fr A k => coB (co x) fr fun a => coB (co y) fr fun b => oB (shiftS (binV P op t x y a b) g a b) fun v => k v A) (natShift op))
    (fun g => .mk fun _ fr A k => coB (co x) fr fun a => coB (co y) fr fun b => oB (binS (binV P op t x y a b) g a b) fun v => k v A) (natBin op)

def getF {α : Type} (t : T4 α) (k : Nat) : Option α :=
  T4.rec (motive := fun _ => Nat → Option α) (fun _ => none)
    (fun v _ _ _ _ ga gb gc gd k =>
      Bool.rec (motive := fun _ => Option α)
        (Bool.rec (motive := fun _ => Option α) (Bool.rec (motive := fun _ => Option α) (gd (Nat.div k 4)) (gc (Nat.div k 4)) (Nat.beq (Nat.mod k 4) 2))
          (Bool.rec (motive := fun _ => Option α) (gb (Nat.div k 4)) (ga (Nat.div k 4)) (Nat.beq (Nat.mod k 4) 0)) (Nat.ble (Nat.mod k 4) 1))
        v (Nat.beq k 0)) t k
def nth (l : List Value) : Nat → Option Value :=
  List.rec (motive := fun _ => Nat → Option Value) (fun _ => none) (fun x _ ih k => Nat.rec (motive := fun _ => Option Value) (some x) (fun j _ => ih j) k) l
def cellsAt {α : Type} (A : AW) (b : Nat) (f : List Value → TypeId → Option α) : Option α :=
  match getF A.heap b with
  | some (.cells c e) => f c e
  | _ => none
def loadS (A : AW) (vi : Bool × Nat) (b o : Nat) : Option Value :=
  Prod.rec (motive := fun _ => Option Value) (fun g n => Bool.rec (motive := fun _ => Option Value) (cellsAt A b fun c _ => nth c o) (cellsAt A b fun c _ => Option.rec (motive := fun _ => Option Value) none (fun r => some (.agg ⟨r⟩)) (cut n o c)) g) vi

def cLoad (P : Program) (t : TypeId) (x : Operand) : Box F :=
  Option.rec (motive := fun _ => Box F) (.mk fun _ _ _ _ => none) (fun vi => .mk fun _ fr A k => coB (co x) fr fun v => asPtr v none fun b o => oB (loadS A vi b o) fun v => k v A) (varInfo P t)
def cStore (P : Program) (t : TypeId) (x y : Operand) : Box F :=
  Option.rec (motive := fun _ => Box F) (.mk fun _ _ _ _ => none) (fun i => .mk fun _ fr A k => coB (co x) fr fun v => coB (co y) fr fun u => asPtr v none fun b o =>
    Option.rec (motive := fun _ => R) none (fun A' => k undef A') (storeAt A i.size b o u)) (P.info? t)
def cNil (x : Operand) : F := fun _ fr A k => coB (co x) fr fun v => (match v with | .pointer (some a) => k (.pointer (some a)) A | _ => none)
def cFieldAddr (P : Program) (s : TypeId) (x : Operand) (f : Nat) : Box F :=
  Option.rec (motive := fun _ => Box F) (.mk fun _ _ _ _ => none) (fun off => .mk fun _ fr A k => coB (co x) fr fun v => asPtr v none fun b o => k (.pointer (some ⟨b, Nat.add o off, none⟩)) A) (fieldInfo P s f)
def asSl {α : Type} (v : Value) (d : α) (f : Nat → Nat → Nat → α) : α :=
  match v with
  | .slice (some ⟨b, o, none⟩) len _ => f b o len
  | _ => d
def cIndexAddr (P : Program) (t : TypeId) (x ix : Operand) (o : Oper) (E : Env) : Box F :=
  match P.underlying t with
  | some (.slice e) => Option.rec (motive := fun _ => Box F) (.mk fun _ _ _ _ => none) (fun inf => .mk fun _ fr A k => coB (co x) fr fun v => coB (co ix) fr fun u => asInt u none fun _ n => asNat n none fun i =>
      asSl v none fun b p len => bB (Nat.blt i len) (k (.pointer (some ⟨b, Nat.add p (Nat.mul i inf.size), none⟩)) A)) (P.info? e)
  | some (.array n e) => Option.rec (motive := fun _ => Box F) (.mk fun _ _ _ _ => none) (fun inf => .mk fun _ fr A k => coB (co x) fr fun v => coB (co ix) fr fun u => asInt u none fun _ j => asNat j none fun i =>
      asPtr v none fun b p => bB (Nat.blt i n) (k (.pointer (some ⟨b, Nat.add p (Nat.mul i inf.size), none⟩)) A)) (P.info? e)
  | _ => .mk (cFall P E o)
def asTup {α : Type} (v : Value) (d : α) (f : List Value → α) : α :=
  match v with
  | .tuple ⟨vs⟩ => f vs
  | _ => d
def cExtract (x : Operand) (i : Nat) : F := fun _ fr A k => coB (co x) fr fun v => asTup v none fun vs => oB (nth vs i) fun v => k v A
def asBool {α : Type} (v : Value) (d : α) (f : Bool → α) : α :=
  match v with
  | .bool b => f b
  | _ => d
def cPick (c a b : Operand) : F := fun _ fr A k => coB (co c) fr fun v => asBool v none fun q => coB (co a) fr fun va => coB (co b) fr fun vb => k (Bool.rec (motive := fun _ => Value) vb va q) A
def cNot (P : Program) (E : Env) (o : Oper) (x : Operand) : F := fun ih fr A k => coB (co x) fr fun v => asBool v (cFall P E o ih fr A k) fun b => k (.bool (!b)) A
def cConv (P : Program) (E : Env) (o : Oper) (src dst : TypeId) (x : Operand) : Box F :=
  match P.underlying src, P.underlying dst with
  | some _, some (.int kk) => .mk fun ih fr A k => coB (co x) fr fun v => asInt v (cFall P E o ih fr A k) fun _ n => k (.int kk (asNat n (wrapF kk n) (wrapN kk))) A
  | _, _ => .mk (cFall P E o)
/-- All arguments are known. -/
def goods : List Operand → Bool
  | [] => true
  | x :: l => (match co x with | .bad => false | _ => true) && goods l
def coV (c : CO) (fr : AFr) : Value := CO.rec (motive := fun _ => Value) (fun p => getV p fr.tmps) (fun v => v) undef c
def vals (fr : AFr) (l : List Operand) : List Value := List.rec (motive := fun _ => List Value) [] (fun x _ ih => coV (co x) fr :: ih) l
def cCall (P : Program) (E : Env) (o : Oper) (f : Operand) (args : Array Operand) : Box F :=
  match f with
  | .func g => bif goods args.toList then
      (match fnInfo P g with
       | some (.body _ _ _) => .mk fun ih fr A k => oB (ih.call g (vals fr args.toList) A) fun r => Prod.rec (motive := fun _ => R) (fun v A' => k v A') r
       | _ => .mk (cFall P E o))
    else .mk (cFall P E o)
  | _ => .mk (cFall P E o)
def compOp (P : Program) (E : Env) (o : Oper) : Box F :=
  match o.op with
  | .move x => .mk (cMove x)
  | .assign x => .mk (cMove x)
  | .load t x => cLoad P t x
  | .binOp op t x y _ => cBin P op t x y
  | .fieldAddr s x f => cFieldAddr P s x f
  | .indexAddr t x ix => cIndexAddr P t x ix o E
  | .nilCheck x => .mk (cNil x)
  | .extract x i => .mk (cExtract x i)
  | .pick c a b => .mk (cPick c a b)
  | .unOp op _ x => (match op with | .not => .mk (cNot P E o x) | _ => .mk (cFall P E o))
  | .convert src dst x => cConv P E o src dst x
  | .store t x y => cStore P t x y
  | .call ⟨.value f, args, _⟩ => cCall P E o f args
  | _ => .mk (cFall P E o)

abbrev GF := Fns → AFr → AW → R
inductive CG where
  | no
  | at (p : Pth) (want : Bool)
  | bad
def cg (ops : Array Oper) (o : Oper) : CG :=
  match o.guard with
  | none => .no
  | some (j, want) => (match ((ops[j]?).bind (·.dst)) with
    | some d => bif Nat.blt d top4 then .at (pathOf 41 d) want else .bad
    | none => .bad)
def wantedS (p : Pth) (want : Bool) (fr : AFr) : Bool := asBool (getV p fr.tmps) false fun b => Bool.rec (motive := fun _ => Bool) (!want) want b
def compOps (P : Program) (E : Env) (ops : Array Oper) (l : List Oper) : Box GF :=
  List.rec (motive := fun _ => Box GF) (.mk fun _ fr A => some (.normal, fr, A))
    (fun o _ ih => Box.rec (motive := fun _ => Box GF) (fun f => Box.rec (motive := fun _ => Box GF) (fun g =>
      CG.rec (motive := fun _ => Box GF)
        (.mk fun h fr A => f h fr A fun v A' => putB (cd o.dst) v fr fun fr' => g h fr' A')
        (fun p want => .mk fun h fr A => iB (wantedS p want fr) (f h fr A fun v A' => putB (cd o.dst) v fr fun fr' => g h fr' A') (putB (cd o.dst) undef fr fun fr' => g h fr' A))
        (.mk fun _ _ _ => none) (cg ops o)) ih) (compOp P E o)) l

abbrev CF := Fns → Option Nat → AFr → AW → R
def seqB (r : R) (f : AFr → AW → R) : R :=
  Option.rec (motive := fun _ => R) none (fun t => Prod.rec (motive := fun _ => R) (fun e q => AExit.rec (motive := fun _ => R) (Prod.rec (motive := fun _ => R) f q) (fun id => some (.exit id, q)) (some (.ret, q)) e) t) r
def compCode (P : Program) (E : Env) (c : Code) : Box CF :=
  match c with
  | .region _ ops false => Box.rec (motive := fun _ => Box CF) (fun g => .mk fun ih _ fr A => g ih fr A) (compOps P E ops ops.toList)
  | .seq a b => .mk fun ih ro fr A => seqB (ih.code ro a fr A) fun fr A => ih.code ro b fr A
  | .cond c x y => .mk fun ih ro fr A => coB (co c) fr fun v => asBool v none fun b => iB b (ih.code ro x fr A) (ih.code ro y fr A)
  | .loop b => .mk fun ih ro fr A => seqB (ih.code ro b fr A) fun fr A => ih.code ro (.loop b) fr A
  | .scope b => .mk fun ih ro fr A => ih.code ro b fr A
  | .exit id => .mk fun _ _ fr A => some (.exit id, fr, A)
  | c => .mk fun ih ro fr A => evCode P E ih ro c fr A

def evCodeS (P : Program) (E : Env) (ih : Fns) (ro : Option Nat) (c : Code) (fr : AFr) (A : AW) : R :=
  Box.rec (motive := fun _ => R) (fun f => f ih ro fr A) (compCode P E c)
def evS (P : Program) (E : Env) (n : Nat) : Fns :=
  Nat.rec (motive := fun _ => Fns) fnsZero (fun _ ih => ⟨evCodeS P E ih, evCall P E ih⟩) n

end
end Ev
end Go
namespace Go
namespace Ev
section
variable {P : Program} {E : Env} {ih : Fns} {fr fr' : AFr} {A A' : AW} {o : Oper} {r : AExit × AFr × AW}

theorem oB_some {α : Type} {x : Option α} {f : α → R} (h : oB x f = some r) : ∃ a, x = some a ∧ f a = some r := by
  cases x with
  | none => cases h
  | some a => exact ⟨a, rfl, h⟩
theorem bB_some {b : Bool} {y : R} (h : bB b y = some r) : b = true ∧ y = some r := by
  cases b with
  | false => cases h
  | true => exact ⟨rfl, h⟩

/-- A place is a number's digits. -/
theorem getV_path : ∀ (f k : Nat) (t : T4 Value), k < 4 ^ f → getV (pathOf f k) t = (t.get k).getD undef := by
  intro f
  induction f with
  | zero =>
    intro k t hk
    have : k = 0 := by simpa using hk
    subst this
    cases t with
    | e => rfl
    | n v a b c d =>
      rw [T4.get_n, if_pos rfl]
      cases v <;> rfl
  | succ f ih =>
    intro k t hk
    have hq : k / 4 < 4 ^ f := by
      rw [Nat.pow_succ] at hk
      omega
    have e : pathOf (f + 1) k = (bif Nat.beq k 0 then .z else bif Nat.ble (k % 4) 1 then (bif Nat.beq (k % 4) 0 then .a (pathOf f (k / 4)) else .b (pathOf f (k / 4))) else (bif Nat.beq (k % 4) 2 then .c (pathOf f (k / 4)) else .d (pathOf f (k / 4)))) :=
      four_b (Nat.beq k 0) (Nat.ble (k % 4) 1) (Nat.beq (k % 4) 0) (Nat.beq (k % 4) 2) Pth.z _ _ _ _
    have hb : ∀ x y, Nat.beq x y = decide (x = y) := fun x y => by rw [Bool.eq_iff_iff]; simp
    have hl : ∀ x y, Nat.ble x y = decide (x ≤ y) := fun x y => by rw [Bool.eq_iff_iff]; simp
    rw [e, hb, hb, hb, hl]
    by_cases h0 : k = 0
    · subst h0
      simp only [decide_true, cond_true]
      cases t with
      | e => rfl
      | n v a b c d =>
        rw [T4.get_n, if_pos rfl]
        cases v <;> rfl
    · have h4 : k % 4 < 4 := Nat.mod_lt _ (by decide)
      have hr : k % 4 = 0 ∨ k % 4 = 1 ∨ k % 4 = 2 ∨ k % 4 = 3 := by omega
      rcases hr with h1 | h1 | h1 | h1 <;> simp only [h0, h1, decide_false, decide_true, cond_false, cond_true, Nat.zero_le, Nat.le_refl, reduceCtorEq, Nat.reduceEqDiff, Nat.reduceLeDiff] <;> cases t with
      | e => rfl
      | n v a b c d =>
        rw [T4.get_n, if_neg h0]
        simp [h1]
        exact ih _ _ hq

theorem path_succ (f k : Nat) : pathOf (f + 1) k = if k = 0 then .z else if k % 4 = 0 then .a (pathOf f (k / 4)) else if k % 4 = 1 then .b (pathOf f (k / 4)) else if k % 4 = 2 then .c (pathOf f (k / 4)) else .d (pathOf f (k / 4)) := by
  refine (four_b (Nat.beq k 0) (Nat.ble (k % 4) 1) (Nat.beq (k % 4) 0) (Nat.beq (k % 4) 2) Pth.z (.a (pathOf f (k / 4))) (.b (pathOf f (k / 4))) (.c (pathOf f (k / 4))) (.d (pathOf f (k / 4)))).trans ?_
  have hb : ∀ x y, Nat.beq x y = decide (x = y) := fun x y => by rw [Bool.eq_iff_iff]; simp
  have hl : ∀ x y, Nat.ble x y = decide (x ≤ y) := fun x y => by rw [Bool.eq_iff_iff]; simp
  rw [hb, hb, hb, hl]
  by_cases h0 : k = 0
  · simp [h0]
  · have h4 : k % 4 < 4 := Nat.mod_lt _ (by decide)
    have hr : k % 4 = 0 ∨ k % 4 = 1 ∨ k % 4 = 2 ∨ k % 4 = 3 := by omega
    rcases hr with h1 | h1 | h1 | h1 <;> simp [h0, h1]

theorem putV_z (x : Value) (t : T4 Value) : putV x .z t = t.bs fun _ a b c d => .n (some x) a b c d := by cases t <;> rfl
theorem putV_a (x : Value) (p : Pth) (t : T4 Value) : putV x (.a p) t = t.bs fun v a b c d => .n v (putV x p a) b c d := by cases t <;> rfl
theorem putV_b (x : Value) (p : Pth) (t : T4 Value) : putV x (.b p) t = t.bs fun v a b c d => .n v a (putV x p b) c d := by cases t <;> rfl
theorem putV_c (x : Value) (p : Pth) (t : T4 Value) : putV x (.c p) t = t.bs fun v a b c d => .n v a b (putV x p c) d := by cases t <;> rfl
theorem putV_d (x : Value) (p : Pth) (t : T4 Value) : putV x (.d p) t = t.bs fun v a b c d => .n v a b c (putV x p d) := by cases t <;> rfl

theorem putV_eq (x : Value) : ∀ (f k : Nat) (t : T4 Value), k < 4 ^ f → putV x (pathOf (f + 1) k) t = T4.put (f + 1) (some x) k t := by
  intro f
  induction f with
  | zero =>
    intro k t hk
    have : k = 0 := by simpa using hk
    subst this
    rw [path_succ, if_pos rfl, putV_z, T4.put_succ]
    cases t <;> rfl
  | succ f ih =>
    intro k t hk
    have hq : k / 4 < 4 ^ f := by
      rw [Nat.pow_succ] at hk
      omega
    rw [path_succ, T4.put_succ]
    by_cases h0 : k = 0
    · simp only [h0, if_pos]
      rw [putV_z]
    · have h4 : k % 4 < 4 := Nat.mod_lt _ (by decide)
      have hr : k % 4 = 0 ∨ k % 4 = 1 ∨ k % 4 = 2 ∨ k % 4 = 3 := by omega
      have ih' := fun t => ih (k / 4) t hq
      rcases hr with h1 | h1 | h1 | h1
      · simp only [h0, h1, if_true, if_false]; rw [putV_a]; simp only [ih']
      · simp [h0, h1]; rw [putV_b]; simp only [ih']
      · simp [h0, h1]; rw [putV_c]; simp only [ih']
      · simp [h0, h1]; rw [putV_d]; simp only [ih']

theorem opnd_co {x : Operand} {f : Value → R} (h : coB (co x) fr f = some r) : ∃ v, opnd fr x = some v ∧ f v = some r := by
  cases x with
  | tmp t =>
    simp only [co] at h
    cases hb : Nat.blt t top4 with
    | false => rw [hb] at h; cases h
    | true =>
      rw [hb] at h
      change f (getV (pathOf 41 t) fr.tmps) = some r at h
      rw [getV_path 41 t _ (Nat.lt_trans (blt_true hb) (by decide))] at h
      exact ⟨_, rfl, h⟩
  | const v =>
    simp only [co] at h
    cases hb : vPlain v with
    | false => rw [hb] at h; cases h
    | true =>
      rw [hb] at h
      exact ⟨v, by simp [opnd, hb], h⟩
  | global g => cases h
  | func f => exact ⟨_, rfl, h⟩

theorem putB_some {d : Option Tmp} {v : Value} {g : AFr → R} (h : putB (cd d) v fr g = some r) : ∃ fr', fr.put d v = some fr' ∧ g fr' = some r := by
  cases d with
  | none => exact ⟨fr, rfl, h⟩
  | some d =>
    simp only [cd] at h
    cases hb : Nat.blt d top4 with
    | false => rw [hb] at h; cases h
    | true =>
      rw [hb] at h
      obtain ⟨tm, n, ds⟩ := fr
      change Bool.rec (motive := fun _ => R) none (g ⟨putV v (pathOf 41 d) tm, n, ds⟩) (Nat.blt d n) = some r at h
      rw [AFr.put_some]
      cases hn : Nat.blt d n with
      | false => rw [hn] at h; cases h
      | true =>
        rw [hn] at h
        refine ⟨_, rfl, ?_⟩
        change g ⟨T4.put (40 + 1) (some v) d tm, n, ds⟩ = some r
        rw [← putV_eq v 40 d tm (blt_true hb)]
        exact h
end
end Ev
end Go
namespace Go
namespace Ev
section
variable {P : Program} {E : Env} {ih : Fns} {fr fr' : AFr} {A A' : AW} {o : Oper} {r : AExit × AFr × AW} {k : Value → AW → R}

/-- What is made of an operation tells what the operation does. -/
def RefF (P : Program) (E : Env) (o : Oper) (f : F) : Prop := ∀ ih fr A k r, f ih fr A k = some r → ∃ v A', evOp P E ih fr A o = some (v, A') ∧ k v A' = some r
def RefB (P : Program) (E : Env) (o : Oper) (b : Box F) : Prop := ∀ f, b = .mk f → RefF P E o f

theorem RefF.box {f : F} (h : RefF P E o f) : RefB P E o (.mk f) := fun g e => by cases e; exact h
theorem ref_none : RefB P E o (.mk fun _ _ _ _ => none) := RefF.box fun _ _ _ _ _ h => by cases h

theorem fall_ref : RefF P E o (cFall P E o) := fun ih fr A k r h => by
  obtain ⟨⟨v, A'⟩, h1, h2⟩ := oB_some h
  exact ⟨v, A', h1, h2⟩

theorem asInt_cases {α : Type} (v : Value) (d : α) (f : IntKind → Int → α) : (∃ k n, v = .int k n ∧ asInt v d f = f k n) ∨ asInt v d f = d := by
  cases v <;> first | exact .inl ⟨_, _, rfl, rfl⟩ | exact .inr rfl
theorem asNat_cases {α : Type} (v : Int) (d : α) (f : Nat → α) : (∃ n, v = .ofNat n ∧ asNat v d f = f n) ∨ asNat v d f = d := by
  cases v with
  | ofNat n => exact .inl ⟨_, rfl, rfl⟩
  | negSucc n => exact .inr rfl
theorem asPtr_cases {α : Type} (v : Value) (d : α) (f : Nat → Nat → α) : (∃ b o, v = .pointer (some ⟨b, o, none⟩) ∧ asPtr v d f = f b o) ∨ asPtr v d f = d := by
  cases v with
  | pointer a =>
    rcases a with _ | ⟨b, o, _ | s⟩
    · exact .inr rfl
    · exact .inl ⟨_, _, rfl, rfl⟩
    · exact .inr rfl
  | _ => exact .inr rfl
theorem asSl_cases {α : Type} (v : Value) (d : α) (f : Nat → Nat → Nat → α) : (∃ b o l c, v = .slice (some ⟨b, o, none⟩) l c ∧ asSl v d f = f b o l) ∨ asSl v d f = d := by
  cases v with
  | slice a l c =>
    rcases a with _ | ⟨b, o, _ | s⟩
    · exact .inr rfl
    · exact .inl ⟨_, _, _, _, rfl, rfl⟩
    · exact .inr rfl
  | _ => exact .inr rfl
theorem asBool_cases {α : Type} (v : Value) (d : α) (f : Bool → α) : (∃ b, v = .bool b ∧ asBool v d f = f b) ∨ asBool v d f = d := by
  cases v <;> first | exact .inl ⟨_, rfl, rfl⟩ | exact .inr rfl
theorem asTup_cases {α : Type} (v : Value) (d : α) (f : List Value → α) : (∃ vs, v = .tuple ⟨vs⟩ ∧ asTup v d f = f vs) ∨ asTup v d f = d := by
  cases v <;> first | exact .inl ⟨_, rfl, rfl⟩ | exact .inr rfl

theorem evOp_read {v : Value} (hk : kind P o.op = 0 ∨ kind P o.op = 1) (h : evR P fr A o.type o.op = some v) : evOp P E ih fr A o = some (v, A) := by
  unfold evOp
  rcases hk with hk | hk <;> rw [hk] <;> simp only [h]

section
variable {dst : Option Tmp} {ty : TypeId} {pos : String} {after : Array Edge} {guard : Option (Nat × Bool)}
theorem move_ref {x : Operand} : RefF P E ⟨dst, .move x, ty, pos, after, guard⟩ (cMove x) := fun ih fr A k r h => by
  obtain ⟨v, h1, h2⟩ := opnd_co h
  exact ⟨v, A, evOp_read (.inl rfl) h1, h2⟩
theorem assign_ref {x : Operand} : RefF P E ⟨dst, .assign x, ty, pos, after, guard⟩ (cMove x) := fun ih fr A k r h => by
  obtain ⟨v, h1, h2⟩ := opnd_co h
  exact ⟨v, A, evOp_read (.inl rfl) h1, h2⟩

theorem getF_eq {α : Type} (t : T4 α) (k : Nat) : getF t k = t.get k := rfl
theorem nth_eq : ∀ (l : List Value) (k : Nat), nth l k = (l.drop k).head?
  | [], k => by simp; rfl
  | x :: l, 0 => rfl
  | x :: l, k + 1 => nth_eq l k
theorem nth_get : ∀ (l : List Value) (k : Nat), nth l k = l[k]?
  | [], k => by simp; rfl
  | x :: l, 0 => rfl
  | x :: l, k + 1 => by simp; exact nth_get l k

theorem cellsAt_some {α : Type} {b : Nat} {f : List Value → TypeId → Option α} {x : α} (h : cellsAt A b f = some x) : ∃ c e, A.get b = some (.cells c e) ∧ f c e = some x := by
  unfold cellsAt at h
  rw [getF_eq] at h
  split at h
  · rename_i c e hc
    exact ⟨c, e, hc, h⟩
  · cases h

theorem loadS_eq {vi : Bool × Nat} {b p : Nat} {v : Value} (h : loadS A vi b p = some v) : loadAt A vi b p = some v := by
  obtain ⟨g, n⟩ := vi
  cases g with
  | false =>
    obtain ⟨c, e, h1, h2⟩ := cellsAt_some (f := fun c _ => nth c p) h
    unfold loadAt
    rw [h1]
    simp only
    rw [← nth_eq]
    exact h2
  | true =>
    obtain ⟨c, e, h1, h2⟩ := cellsAt_some (f := fun c _ => Option.rec (motive := fun _ => Option Value) none (fun r => some (.agg ⟨r⟩)) (cut n p c)) h
    unfold loadAt
    rw [h1]
    simp only at h2 ⊢
    cases hc : cut n p c with
    | none => rw [hc] at h2; cases h2
    | some x => rw [hc] at h2; exact h2

theorem load_ref {t : TypeId} {x : Operand} : RefB P E ⟨dst, .load t x, ty, pos, after, guard⟩ (cLoad P t x) := by
  unfold cLoad
  cases hv : varInfo P t with
  | none => exact ref_none
  | some vi =>
    refine RefF.box fun ih fr A k r h => ?_
    obtain ⟨v, h1, h2⟩ := opnd_co h
    rcases asPtr_cases v none (fun b p => oB (loadS A vi b p) fun v => k v A) with ⟨b, p, rfl, e⟩ | e
    · rw [e] at h2
      obtain ⟨u, h3, h4⟩ := oB_some h2
      refine ⟨u, A, evOp_read (.inr rfl) ?_, h4⟩
      simp only [evR, h1, hv]
      exact loadS_eq h3
    · rw [e] at h2; cases h2

theorem store_ref {t : TypeId} {x y : Operand} : RefB P E ⟨dst, .store t x y, ty, pos, after, guard⟩ (cStore P t x y) := by
  unfold cStore
  cases hv : P.info? t with
  | none => exact ref_none
  | some i =>
    refine RefF.box fun ih fr A k r h => ?_
    obtain ⟨v, h1, h2⟩ := opnd_co h
    obtain ⟨u, h3, h4⟩ := opnd_co h2
    rcases asPtr_cases v none (fun b p => Option.rec (motive := fun _ => R) none (fun A' => k undef A') (storeAt A i.size b p u)) with ⟨b, p, rfl, e⟩ | e
    · rw [e] at h4
      cases hs : storeAt A i.size b p u with
      | none => rw [hs] at h4; cases h4
      | some A' =>
        rw [hs] at h4
        refine ⟨undef, A', ?_, h4⟩
        change evW P fr A ty (.store t x y) = _
        simp only [evW, h1, h3, hv, hs]
    · rw [e] at h4; cases h4

theorem nil_ref {x : Operand} : RefF P E ⟨dst, .nilCheck x, ty, pos, after, guard⟩ (cNil x) := fun ih fr A k r h => by
  obtain ⟨v, h1, h2⟩ := opnd_co h
  split at h2
  · exact ⟨_, A, evOp_read (.inl rfl) (by simp only [evR, h1]), h2⟩
  · cases h2

theorem fieldAddr_ref {s : TypeId} {x : Operand} {f : Nat} : RefB P E ⟨dst, .fieldAddr s x f, ty, pos, after, guard⟩ (cFieldAddr P s x f) := by
  unfold cFieldAddr
  cases hv : fieldInfo P s f with
  | none => exact ref_none
  | some off =>
    refine RefF.box fun ih fr A k r h => ?_
    obtain ⟨v, h1, h2⟩ := opnd_co h
    rcases asPtr_cases v none (fun b p => k (.pointer (some ⟨b, Nat.add p off, none⟩)) A) with ⟨b, p, rfl, e⟩ | e
    · rw [e] at h2
      exact ⟨_, A, evOp_read (.inl rfl) (by simp only [evR, h1, hv]; rfl), h2⟩
    · rw [e] at h2; cases h2

theorem indexAddr_ref {t : TypeId} {x ix : Operand} : RefB P E ⟨dst, .indexAddr t x ix, ty, pos, after, guard⟩ (cIndexAddr P t x ix ⟨dst, .indexAddr t x ix, ty, pos, after, guard⟩ E) := by
  unfold cIndexAddr
  split
  · rename_i e hu
    cases hv : P.info? e with
    | none => exact ref_none
    | some inf =>
      refine RefF.box fun ih fr A k r h => ?_
      obtain ⟨v, h1, h2⟩ := opnd_co h
      obtain ⟨u, h3, h4⟩ := opnd_co h2
      rcases asInt_cases u none (fun _ n => asNat n none fun i => asSl v none fun b p len => bB (Nat.blt i len) (k (.pointer (some ⟨b, Nat.add p (Nat.mul i inf.size), none⟩)) A)) with ⟨kk, n, rfl, q⟩ | q
      · rw [q] at h4
        rcases asNat_cases n none (fun i => asSl v none fun b p len => bB (Nat.blt i len) (k (.pointer (some ⟨b, Nat.add p (Nat.mul i inf.size), none⟩)) A)) with ⟨i, rfl, q⟩ | q
        · rw [q] at h4
          rcases asSl_cases v none (fun b p len => bB (Nat.blt i len) (k (.pointer (some ⟨b, Nat.add p (Nat.mul i inf.size), none⟩)) A)) with ⟨b, p, len, cap, rfl, q⟩ | q
          · rw [q] at h4
            obtain ⟨h5, h6⟩ := bB_some h4
            refine ⟨_, A, evOp_read (.inl rfl) ?_, h6⟩
            simp only [evR, h1, h3, hu, hv, h5]
            rfl
          · rw [q] at h4; cases h4
        · rw [q] at h4; cases h4
      · rw [q] at h4; cases h4
  · rename_i n e hu
    cases hv : P.info? e with
    | none => exact ref_none
    | some inf =>
      refine RefF.box fun ih fr A k r h => ?_
      obtain ⟨v, h1, h2⟩ := opnd_co h
      obtain ⟨u, h3, h4⟩ := opnd_co h2
      rcases asInt_cases u none (fun _ j => asNat j none fun i => asPtr v none fun b p => bB (Nat.blt i n) (k (.pointer (some ⟨b, Nat.add p (Nat.mul i inf.size), none⟩)) A)) with ⟨kk, j, rfl, q⟩ | q
      · rw [q] at h4
        rcases asNat_cases j none (fun i => asPtr v none fun b p => bB (Nat.blt i n) (k (.pointer (some ⟨b, Nat.add p (Nat.mul i inf.size), none⟩)) A)) with ⟨i, rfl, q⟩ | q
        · rw [q] at h4
          rcases asPtr_cases v none (fun b p => bB (Nat.blt i n) (k (.pointer (some ⟨b, Nat.add p (Nat.mul i inf.size), none⟩)) A)) with ⟨b, p, rfl, q⟩ | q
          · rw [q] at h4
            obtain ⟨h5, h6⟩ := bB_some h4
            refine ⟨_, A, evOp_read (.inl rfl) ?_, h6⟩
            simp only [evR, h1, h3, hu, hv, h5]
            rfl
          · rw [q] at h4; cases h4
        · rw [q] at h4; cases h4
      · rw [q] at h4; cases h4
  · exact RefF.box fall_ref

theorem extract_ref {x : Operand} {i : Nat} : RefF P E ⟨dst, .extract x i, ty, pos, after, guard⟩ (cExtract x i) := fun ih fr A k r h => by
  obtain ⟨v, h1, h2⟩ := opnd_co h
  rcases asTup_cases v none (fun vs => oB (nth vs i) fun v => k v A) with ⟨vs, rfl, e⟩ | e
  · rw [e] at h2
    obtain ⟨u, h3, h4⟩ := oB_some h2
    rw [nth_get] at h3
    exact ⟨u, A, evOp_read (.inl rfl) (by simp only [evR, h1, h3]), h4⟩
  · rw [e] at h2; cases h2

theorem pick_ref {c x y : Operand} : RefF P E ⟨dst, .pick c x y, ty, pos, after, guard⟩ (cPick c x y) := fun ih fr A k r h => by
  obtain ⟨v, h1, h2⟩ := opnd_co h
  rcases asBool_cases v none (fun q => coB (co x) fr fun va => coB (co y) fr fun vb => k (Bool.rec (motive := fun _ => Value) vb va q) A) with ⟨q, rfl, e⟩ | e
  · rw [e] at h2
    obtain ⟨va, h3, h4⟩ := opnd_co h2
    obtain ⟨vb, h5, h6⟩ := opnd_co h4
    refine ⟨_, A, evOp_read (.inl rfl) ?_, h6⟩
    cases q <;> simp only [evR, h1, h3, h5]
  · rw [e] at h2; cases h2

theorem not_ref {x : Operand} {t : TypeId} : RefF P E ⟨dst, .unOp .not t x, ty, pos, after, guard⟩ (cNot P E ⟨dst, .unOp .not t x, ty, pos, after, guard⟩ x) := fun ih fr A k r h => by
  obtain ⟨v, h1, h2⟩ := opnd_co h
  rcases asBool_cases v (cFall P E ⟨dst, .unOp .not t x, ty, pos, after, guard⟩ ih fr A k) (fun b => k (.bool (!b)) A) with ⟨q, rfl, e⟩ | e
  · rw [e] at h2
    exact ⟨_, A, evOp_read (.inl rfl) (by simp only [evR, h1]), h2⟩
  · rw [e] at h2
    exact fall_ref ih fr A k r h2

theorem wrapN_eq (k : IntKind) (m : Nat) : wrapN k m = wrapF k (.ofNat m) := by
  cases k <;> simp only [wrapN, wrapF] <;> first | rfl | (split <;> simp_all) | skip
  all_goals
    first
      | (cases Nat.blt m 9223372036854775808 <;> rfl)
      | (cases Nat.blt m 18446744073709551616 <;> rfl)

theorem conv_ref {s d : TypeId} {x : Operand} : RefB P E ⟨dst, .convert s d x, ty, pos, after, guard⟩ (cConv P E ⟨dst, .convert s d x, ty, pos, after, guard⟩ s d x) := by
  unfold cConv
  split
  · rename_i ds kk h1 h2
    refine RefF.box fun ih fr A k r h => ?_
    obtain ⟨v, h3, h4⟩ := opnd_co h
    rcases asInt_cases v (cFall P E ⟨dst, .convert s d x, ty, pos, after, guard⟩ ih fr A k) (fun _ n => k (.int kk (asNat n (wrapF kk n) (wrapN kk))) A) with ⟨j, n, rfl, e⟩ | e
    · rw [e] at h4
      have hn : asNat n (wrapF kk n) (wrapN kk) = wrapF kk n := by
        cases n with
        | ofNat m => exact wrapN_eq kk m
        | negSucc m => rfl
      rw [hn] at h4
      have hkd : kind P (.convert s d x) = 0 := by simp only [kind, h1, h2]
      exact ⟨_, A, evOp_read (.inl hkd) (by simp only [evR, h1, h2, h3]), h4⟩
    · rw [e] at h4
      exact fall_ref ih fr A k r h4
  · exact RefF.box fall_ref
end
end
end Ev
end Go
namespace Go
namespace Ev
section
variable {P : Program} {E : Env} {ih : Fns} {fr fr' : AFr} {A A' : AW} {o : Oper} {r : AExit × AFr × AW} {k : Value → AW → R}

theorem blt_dec (x y : Nat) : Nat.blt x y = decide (x < y) := by
  rw [Bool.eq_iff_iff, decide_eq_true_iff]
  exact ⟨blt_true, fun h => Nat.ble_eq_true_of_le h⟩
theorem ble_dec (x y : Nat) : Nat.ble x y = decide (x ≤ y) := by
  rw [Bool.eq_iff_iff, decide_eq_true_iff]
  exact ⟨ble_true, fun h => Nat.ble_eq_true_of_le h⟩
theorem int_add_nat (m n : Nat) : (Int.ofNat m + Int.ofNat n) = Int.ofNat (Nat.add m n) := rfl
theorem int_mul_nat (m n : Nat) : (Int.ofNat m * Int.ofNat n) = Int.ofNat (Nat.mul m n) := rfl
theorem int_sub_nat {m n : Nat} (h : Nat.ble n m = true) : (Int.ofNat m - Int.ofNat n) = Int.ofNat (Nat.sub m n) := by
  have := ble_true h
  exact (Int.ofNat_sub this).symm

theorem plain_bits {op : BinOp} {t : TypeId} {x y : Operand} {kk : IntKind} {a b : Int} (hop : op = .and ∨ op = .or ∨ op = .xor) {v : Value} (h : Op.intBits op kk a b = (.pure v : Sem Value)) (hv : vPlain v = true) :
    plainOp P (do eqGuard op t x y (.int kk a) (.int kk b); binOp op t (.int kk a) (.int kk b)) = some v := by
  have hb : binOp op t (.int kk a) (.int kk b) = .pure v := by
    rcases hop with rfl | rfl | rfl <;> simp only [binOp, ne_eq, not_true_eq_false, if_false] <;> exact h
  rw [hb]
  rcases hop with rfl | rfl | rfl <;>
  · unfold plainOp
    change (match semPure P (.pure v) with | some r => bif vPlain r then some r else none | none => none) = some v
    simp only [semPure, hv, cond_true]

theorem bound_lt {kk : IntKind} {m : Nat} (h : Nat.blt m (bound kk) = true) : m < bound kk := blt_true h
theorem bound_le (kk : IntKind) : bound kk ≤ 2 ^ kk.bits := by cases kk <;> decide
theorem ofInt_nat {kk : IntKind} {m : Nat} (h : m < bound kk) : (BitVec.ofInt kk.bits (Int.ofNat m)).toNat = m := by
  have := bound_le kk
  rw [BitVec.toNat_ofInt]
  have e : (Int.ofNat m % (2 ^ kk.bits : Nat) : Int) = Int.ofNat (m % 2 ^ kk.bits) := rfl
  rw [e]
  change m % 2 ^ kk.bits = m
  exact Nat.mod_eq_of_lt (by omega)
theorem wrap_bound {kk : IntKind} {m : Nat} (h : m < bound kk) : kk.wrap (m : Int) = Int.ofNat m := by
  cases kk <;> simp only [bound] at h <;> first | (exact absurd h (Nat.not_lt_zero _)) | skip
  all_goals
    change _ = (m : Int)
    simp only [IntKind.wrap, IntKind.bits, IntKind.signed, Bool.false_and, Bool.true_and, if_false, Bool.false_eq_true, ge_iff_le, decide_eq_true_eq]
    first
      | (rw [if_neg (by omega)]; omega)
      | omega

theorem bits_res {kk : IntKind} {m n q : Nat} (hm : m < bound kk) (hn : n < bound kk) {op : BinOp} {f : ∀ w, BitVec w → BitVec w → BitVec w} (hop : ∀ a b : Int, Op.intBits op kk a b = (.pure (.int kk (kk.wrap ((f kk.bits (BitVec.ofInt kk.bits a) (BitVec.ofInt kk.bits b)).toNat))) : Sem Value))
    (hf : ∀ a b : BitVec kk.bits, a.toNat = m → b.toNat = n → (f kk.bits a b).toNat = q) (hq : q < bound kk) : Op.intBits op kk (.ofNat m) (.ofNat n) = (.pure (.int kk (.ofNat q)) : Sem Value) := by
  rw [hop, hf _ _ (ofInt_nat hm) (ofInt_nat hn), wrap_bound hq]

theorem pow_bound (kk : IntKind) {m : Nat} (h : m < bound kk) : ∃ w, bound kk = 2 ^ w := by
  cases kk <;> simp only [bound] at h ⊢ <;> first | exact absurd h (Nat.not_lt_zero _) | exact ⟨8, rfl⟩ | exact ⟨16, rfl⟩ | exact ⟨32, rfl⟩ | exact ⟨64, rfl⟩ | exact ⟨63, rfl⟩

theorem natBin_ok {op : BinOp} {g : IntKind → Nat → Nat → Option Value} (hg : natBin op = some g) {t : TypeId} {x y : Operand} {kk j : IntKind} {m n : Nat} {v : Value} (hk : kEq kk j = true) (h : g kk m n = some v) :
    binV P op t x y (.int kk (.ofNat m)) (.int j (.ofNat n)) = some v := by
  have hj : j = kk := by cases kk <;> cases j <;> first | rfl | cases hk
  subst hj
  have arith : ∀ {u : Value}, intBin op j (.ofNat m) (.ofNat n) = some u → binV P op t x y (.int j (.ofNat m)) (.int j (.ofNat n)) = some u := fun {u} hu => by
    simp only [binV, hk, cond_true, hu]
  cases op <;> simp only [natBin, Option.some.injEq, reduceCtorEq] at hg <;> subst hg
  case add =>
    simp only [Option.some.injEq] at h
    subst h
    refine arith ?_
    rw [wrapN_eq]
    rfl
  case sub =>
    cases hb : Nat.ble n m with
    | false => simp only [hb] at h; cases h
    | true =>
      simp only [hb, Option.some.injEq] at h
      subst h
      refine arith ?_
      rw [wrapN_eq, ← int_sub_nat hb]
      rfl
  case mul =>
    simp only [Option.some.injEq] at h
    subst h
    refine arith ?_
    rw [wrapN_eq]
    rfl
  case eql => simp only [Option.some.injEq] at h; subst h; exact arith rfl
  case neq => simp only [Option.some.injEq] at h; subst h; exact arith rfl
  case lss => simp only [Option.some.injEq] at h; subst h; exact arith rfl
  case gtr => simp only [Option.some.injEq] at h; subst h; exact arith rfl
  case leq =>
    simp only [Option.some.injEq] at h; subst h
    refine arith ?_
    simp only [intBin, intLt, Option.some.injEq, Value.bool.injEq, blt_dec, ble_dec]
    rw [Bool.eq_iff_iff]
    simp
  case geq =>
    simp only [Option.some.injEq] at h; subst h
    refine arith ?_
    simp only [intBin, intLt, Option.some.injEq, Value.bool.injEq, blt_dec, ble_dec]
    rw [Bool.eq_iff_iff]
    simp
  case and =>
    cases h1 : Nat.blt m (bound j) with
    | false => simp only [h1] at h; cases h
    | true =>
      cases h2 : Nat.blt n (bound j) with
      | false => simp only [h1, h2] at h; cases h
      | true =>
        simp only [h1, h2, Option.some.injEq] at h
        subst h
        simp only [binV, hk, cond_true, intBin]
        refine plain_bits (.inl rfl) (bits_res (f := fun _ a b => a &&& b) (blt_true h1) (blt_true h2) (fun _ _ => rfl) (fun a b ha hb => by rw [BitVec.toNat_and, ha, hb]; rfl) ?_) rfl
        exact Nat.lt_of_le_of_lt Nat.and_le_left (blt_true h1)
  case or =>
    cases h1 : Nat.blt m (bound j) with
    | false => simp only [h1] at h; cases h
    | true =>
      cases h2 : Nat.blt n (bound j) with
      | false => simp only [h1, h2] at h; cases h
      | true =>
        simp only [h1, h2, Option.some.injEq] at h
        subst h
        simp only [binV, hk, cond_true, intBin]
        refine plain_bits (.inr (.inl rfl)) (bits_res (f := fun _ a b => a ||| b) (blt_true h1) (blt_true h2) (fun _ _ => rfl) (fun a b ha hb => by rw [BitVec.toNat_or, ha, hb]; rfl) ?_) rfl
        obtain ⟨w, hw⟩ := pow_bound j (blt_true h1)
        have a1 := blt_true h1
        have a2 := blt_true h2
        rw [hw] at a1 a2 ⊢
        exact Nat.or_lt_two_pow a1 a2
  case xor =>
    cases h1 : Nat.blt m (bound j) with
    | false => simp only [h1] at h; cases h
    | true =>
      cases h2 : Nat.blt n (bound j) with
      | false => simp only [h1, h2] at h; cases h
      | true =>
        simp only [h1, h2, Option.some.injEq] at h
        subst h
        simp only [binV, hk, cond_true, intBin]
        refine plain_bits (.inr (.inr rfl)) (bits_res (f := fun _ a b => a ^^^ b) (blt_true h1) (blt_true h2) (fun _ _ => rfl) (fun a b ha hb => by rw [BitVec.toNat_xor, ha, hb]; rfl) ?_) rfl
        obtain ⟨w, hw⟩ := pow_bound j (blt_true h1)
        have a1 := blt_true h1
        have a2 := blt_true h2
        rw [hw] at a1 a2 ⊢
        exact Nat.xor_lt_two_pow a1 a2

theorem plain_shift {op : BinOp} {t : TypeId} {x y : Operand} {kk j : IntKind} {a b : Int} (hop : op = .shl ∨ op = .shr) {v : Value} (h : Op.shift op kk a j b = (.pure v : Sem Value)) (hv : vPlain v = true) :
    binV P op t x y (.int kk a) (.int j b) = some v := by
  have hb : binOp op t (.int kk a) (.int j b) = .pure v := by
    rcases hop with rfl | rfl <;> exact h
  have hp : plainOp P (do eqGuard op t x y (.int kk a) (.int j b); binOp op t (.int kk a) (.int j b)) = some v := by
    rw [hb]
    rcases hop with rfl | rfl <;>
    · unfold plainOp
      change (match semPure P (.pure v) with | some r => bif vPlain r then some r else none | none => none) = some v
      simp only [semPure, hv, cond_true]
  have hi : (bif kEq kk j then intBin op kk a b else none) = none := by
    rcases hop with rfl | rfl <;> cases kEq kk j <;> rfl
  simp only [binV, hi, hp]

theorem natShift_ok {op : BinOp} {g : IntKind → Nat → Nat → Option Value} (hg : natShift op = some g) {t : TypeId} {x y : Operand} {kk j : IntKind} {m n : Nat} {v : Value} (h : g kk m n = some v) :
    binV P op t x y (.int kk (.ofNat m)) (.int j (.ofNat n)) = some v := by
  have hmin : ∀ {b : Nat}, n ≤ b → min (Int.ofNat n).toNat b = n := fun {b} hb => Nat.min_eq_left hb
  have hneg : ¬ (Int.ofNat n < 0) := by simp
  cases op <;> simp only [natShift, Option.some.injEq, reduceCtorEq] at hg <;> subst hg
  case shl =>
    cases hb : Nat.ble n kk.bits with
    | false => simp only [hb] at h; cases h
    | true =>
      simp only [hb, Option.some.injEq] at h
      subst h
      refine plain_shift (.inl rfl) ?_ rfl
      simp only [Op.shift, hneg, if_false, hmin (ble_true hb)]
      rw [wrapN_eq]
      have e : (Int.ofNat m * 2 ^ n) = Int.ofNat (m * 2 ^ n) := by simp
      rw [e]
      have hw : ∀ q : Nat, wrapF kk (.ofNat q) = kk.wrap (.ofNat q) := fun q => by
        cases kk <;> simp only [wrapF] <;> first | rfl | skip
        all_goals first
          | (cases hq : Nat.blt q 9223372036854775808 with
            | false => rfl
            | true => exact (wrap_bound (kk := .i64) (blt_true hq)).symm)
          | (cases hq : Nat.blt q 18446744073709551616 with
            | false => rfl
            | true => exact (wrap_bound (kk := .u64) (blt_true hq)).symm)
          | (simp only [IntKind.wrap, IntKind.bits, IntKind.signed, Bool.false_and, if_false, Bool.false_eq_true]; rfl)
      rw [hw]
      rfl
  case shr =>
    cases hb : Nat.ble n kk.bits with
    | false => simp only [hb] at h; cases h
    | true =>
      simp only [hb, Option.some.injEq] at h
      subst h
      refine plain_shift (.inr rfl) ?_ rfl
      simp only [Op.shift, hneg, if_false, hmin (ble_true hb)]
      have e : (Int.ofNat m).fdiv (2 ^ n) = Int.ofNat (m / 2 ^ n) := by
        have : ((2 : Int) ^ n) = Int.ofNat (2 ^ n) := by simp
        rw [this]
        exact (Int.ofNat_fdiv m (2 ^ n)).symm
      rw [e]
      rfl

section
variable {dst : Option Tmp} {ty : TypeId} {pos : String} {after : Array Edge} {guard : Option (Nat × Bool)}

theorem orV_some {d x : Option Value} {v : Value} (h : orV d x = some v) : x = some v ∨ d = some v := by
  cases x with
  | none => exact .inr h
  | some u => exact .inl h

theorem bin_ref {op : BinOp} {t yt : TypeId} {x y : Operand} : RefB P E ⟨dst, .binOp op t x y yt, ty, pos, after, guard⟩ (cBin P op t x y) := by
  unfold cBin
  have base : ∀ {fr : AFr} {A : AW} {ih : Fns} {a b v : Value}, opnd fr x = some a → opnd fr y = some b → binV P op t x y a b = some v → evOp P E ih fr A ⟨dst, .binOp op t x y yt, ty, pos, after, guard⟩ = some (v, A) := fun {fr A ih a b v} h1 h2 h3 =>
    evOp_read (.inl rfl) (by simp only [evR, h1, h2, h3])
  cases hg : natBin op with
  | none =>
    cases hs : natShift op with
    | none =>
      refine RefF.box fun ih fr A k r h => ?_
      obtain ⟨a, h1, h2⟩ := opnd_co h
      obtain ⟨b, h3, h4⟩ := opnd_co h2
      obtain ⟨v, h5, h6⟩ := oB_some h4
      exact ⟨v, A, base h1 h3 h5, h6⟩
    | some g =>
      refine RefF.box fun ih fr A k r h => ?_
      obtain ⟨a, h1, h2⟩ := opnd_co h
      obtain ⟨b, h3, h4⟩ := opnd_co h2
      obtain ⟨v, h5, h6⟩ := oB_some h4
      refine ⟨v, A, base h1 h3 ?_, h6⟩
      unfold shiftS at h5
      generalize hd : binV P op t x y a b = d at h5 ⊢
      rcases asInt_cases a d (fun k i => asInt b d fun _ l => asNat i d fun m => asNat l d fun n => orV d (g k m n)) with ⟨kk, i, rfl, e⟩ | e
      · rw [e] at h5
        rcases asInt_cases b d (fun _ l => asNat i d fun m => asNat l d fun n => orV d (g kk m n)) with ⟨j, l, rfl, e⟩ | e
        · rw [e] at h5
          rcases asNat_cases i d (fun m => asNat l d fun n => orV d (g kk m n)) with ⟨m, rfl, e⟩ | e
          · rw [e] at h5
            rcases asNat_cases l d (fun n => orV d (g kk m n)) with ⟨n, rfl, e⟩ | e
            · rw [e] at h5
              rcases orV_some h5 with h7 | h7
              · rw [← hd]; exact natShift_ok hs h7
              · exact h7
            · rw [e] at h5; exact h5
          · rw [e] at h5; exact h5
        · rw [e] at h5; exact h5
      · rw [e] at h5; exact h5
  | some g =>
    refine RefF.box fun ih fr A k r h => ?_
    obtain ⟨a, h1, h2⟩ := opnd_co h
    obtain ⟨b, h3, h4⟩ := opnd_co h2
    obtain ⟨v, h5, h6⟩ := oB_some h4
    refine ⟨v, A, base h1 h3 ?_, h6⟩
    unfold binS at h5
    generalize hd : binV P op t x y a b = d at h5 ⊢
    rcases asInt_cases a d (fun k i => asInt b d fun j l => Bool.rec (motive := fun _ => Option Value) d (asNat i d fun m => asNat l d fun n => orV d (g k m n)) (kEq k j)) with ⟨kk, i, rfl, e⟩ | e
    · rw [e] at h5
      rcases asInt_cases b d (fun j l => Bool.rec (motive := fun _ => Option Value) d (asNat i d fun m => asNat l d fun n => orV d (g kk m n)) (kEq kk j)) with ⟨j, l, rfl, e⟩ | e
      · rw [e] at h5
        cases hk : kEq kk j with
        | false => rw [hk] at h5; exact h5
        | true =>
          rw [hk] at h5
          change (asNat i d fun m => asNat l d fun n => orV d (g kk m n)) = some v at h5
          rcases asNat_cases i d (fun m => asNat l d fun n => orV d (g kk m n)) with ⟨m, rfl, e⟩ | e
          · rw [e] at h5
            rcases asNat_cases l d (fun n => orV d (g kk m n)) with ⟨n, rfl, e⟩ | e
            · rw [e] at h5
              rcases orV_some h5 with h7 | h7
              · rw [← hd]; exact natBin_ok hg hk h7
              · exact h7
            · rw [e] at h5; exact h5
          · rw [e] at h5; exact h5
      · rw [e] at h5; exact h5
    · rw [e] at h5; exact h5

theorem good_co {x : Operand} (h : (match co x with | .bad => false | _ => true) = true) : opnd fr x = some (coV (co x) fr) := by
  cases x with
  | tmp t =>
    simp only [co] at h ⊢
    cases hb : Nat.blt t top4 with
    | false => rw [hb] at h; cases h
    | true =>
      simp only [cond_true]
      change some (fr.tmp t) = some (getV (pathOf 41 t) fr.tmps)
      rw [getV_path 41 t _ (Nat.lt_trans (blt_true hb) (by decide))]
      rfl
  | const v =>
    simp only [co] at h ⊢
    cases hb : vPlain v with
    | false => rw [hb] at h; cases h
    | true => simp only [opnd, hb, cond_true]; rfl
  | global g => cases h
  | func f => rfl

theorem vals_ok : ∀ {l : List Operand}, goods l = true → opnds fr l = some (vals fr l)
  | [], _ => rfl
  | x :: l, h => by
    simp only [goods] at h
    obtain ⟨h1, h2⟩ := and_true h
    simp only [opnds, good_co h1, vals_ok h2]
    rfl

theorem call_ref {f : Operand} {args : Array Operand} {ats : Array TypeId} : RefB P E ⟨dst, .call ⟨.value f, args, ats⟩, ty, pos, after, guard⟩ (cCall P E ⟨dst, .call ⟨.value f, args, ats⟩, ty, pos, after, guard⟩ f args) := by
  unfold cCall
  split
  · rename_i g
    cases hg : goods args.toList with
    | false => exact RefF.box fall_ref
    | true =>
      simp only [cond_true]
      split
      · rename_i c n rs hi
        refine RefF.box fun ih fr A k r h => ?_
        obtain ⟨⟨v, A'⟩, h1, h2⟩ := oB_some h
        refine ⟨v, A', ?_, h2⟩
        change evC P E ih fr A (.call ⟨.value (.func g), args, ats⟩) = _
        simp only [evC, opnd, vals_ok hg, evFn, evFunc, hi, List.nil_append, List.append_nil, h1]
      · exact RefF.box fall_ref
  · exact RefF.box fall_ref

theorem op_ref : RefB P E o (compOp P E o) := by
  obtain ⟨dst, op, ty, pos, after, guard⟩ := o
  unfold compOp
  simp only
  split
  · exact RefF.box move_ref
  · exact RefF.box assign_ref
  · exact load_ref
  · exact bin_ref
  · exact fieldAddr_ref
  · exact indexAddr_ref
  · exact RefF.box nil_ref
  · exact RefF.box extract_ref
  · exact RefF.box pick_ref
  · split
    · exact RefF.box not_ref
    · exact RefF.box fall_ref
  · exact conv_ref
  · exact store_ref
  · exact call_ref
  · exact RefF.box fall_ref
end

theorem wantedS_eq {ops : Array Oper} {j d : Nat} {want : Bool} (hgd : o.guard = some (j, want)) (hd : ((ops[j]?).bind (·.dst)) = some d) (hb : Nat.blt d top4 = true) : wantedS (pathOf 41 d) want fr = wantedA ops fr o := by
  have hgv := getV_path 41 d fr.tmps (Nat.lt_trans (blt_true hb) (by decide))
  unfold wantedS wantedA
  simp only [hgd, hd]
  rw [hgv]
  cases hx : fr.tmps.get d with
  | none => rfl
  | some u =>
    cases u <;> first | rfl | skip
    rename_i b
    change Bool.rec (motive := fun _ => Bool) (!want) want b = (b == want)
    cases b <;> cases want <;> rfl

/-- A row of operations. -/
theorem ops_ref {ops : Array Oper} : ∀ (l : List Oper) (g : GF), compOps P E ops l = .mk g → ∀ ih fr A r, g ih fr A = some r → ∃ fr' A', evOps P E ih ops l fr A = some (fr', A') ∧ r = (.normal, fr', A')
  | [], g, hg, ih, fr, A, r, h => by
    change Box.mk (fun _ fr A => some (AExit.normal, fr, A)) = Box.mk g at hg
    simp only [Box.mk.injEq] at hg
    subst hg
    simp only [Option.some.injEq] at h
    exact ⟨fr, A, rfl, h.symm⟩
  | o :: l, g, hg, ih, fr, A, r, h => by
    obtain ⟨f, hf⟩ : ∃ f, compOp P E o = .mk f := by cases h : compOp P E o; exact ⟨_, rfl⟩
    obtain ⟨g0, hg0⟩ : ∃ g0, compOps P E ops l = .mk g0 := by cases h : compOps P E ops l; exact ⟨_, rfl⟩
    have e : compOps P E ops (o :: l) = CG.rec (motive := fun _ => Box GF)
        (.mk fun h fr A => f h fr A fun v A' => putB (cd o.dst) v fr fun fr' => g0 h fr' A')
        (fun p want => .mk fun h fr A => iB (wantedS p want fr) (f h fr A fun v A' => putB (cd o.dst) v fr fun fr' => g0 h fr' A') (putB (cd o.dst) undef fr fun fr' => g0 h fr' A))
        (.mk fun _ _ _ => none) (cg ops o) := by
      change Box.rec (motive := fun _ => Box GF) (fun f => Box.rec (motive := fun _ => Box GF) (fun g => CG.rec (motive := fun _ => Box GF)
        (.mk fun h fr A => f h fr A fun v A' => putB (cd o.dst) v fr fun fr' => g h fr' A')
        (fun p want => .mk fun h fr A => iB (wantedS p want fr) (f h fr A fun v A' => putB (cd o.dst) v fr fun fr' => g h fr' A') (putB (cd o.dst) undef fr fun fr' => g h fr' A))
        (.mk fun _ _ _ => none) (cg ops o)) (compOps P E ops l)) (compOp P E o) = _
      rw [hf, hg0]
    rw [e] at hg
    have yes : wantedA ops fr o = true → (f ih fr A fun v A' => putB (cd o.dst) v fr fun fr' => g0 ih fr' A') = some r → ∃ fr' A', evOps P E ih ops (o :: l) fr A = some (fr', A') ∧ r = (.normal, fr', A') := fun hw h => by
      obtain ⟨v, A1, h1, h2⟩ := op_ref f hf ih fr A _ r h
      obtain ⟨fr1, h3, h4⟩ := putB_some h2
      obtain ⟨fr', A', h5, h6⟩ := ops_ref l g0 hg0 ih fr1 A1 r h4
      refine ⟨fr', A', ?_, h6⟩
      simp only [evOps, hw, cond_true, h1, h3, h5]
    have no : wantedA ops fr o = false → (putB (cd o.dst) undef fr fun fr' => g0 ih fr' A) = some r → ∃ fr' A', evOps P E ih ops (o :: l) fr A = some (fr', A') ∧ r = (.normal, fr', A') := fun hw h => by
      obtain ⟨fr1, h3, h4⟩ := putB_some h
      obtain ⟨fr', A', h5, h6⟩ := ops_ref l g0 hg0 ih fr1 A r h4
      refine ⟨fr', A', ?_, h6⟩
      simp only [evOps, hw, cond_false, h3, h5]
    cases hgd : o.guard with
    | none =>
      have hc : cg ops o = .no := by simp only [cg, hgd]
      rw [hc] at hg
      simp only [Box.mk.injEq] at hg
      subst hg
      exact yes (by simp only [wantedA, hgd]) h
    | some q =>
      obtain ⟨j, want⟩ := q
      cases hd : ((ops[j]?).bind (·.dst)) with
      | none =>
        have hc : cg ops o = .bad := by simp only [cg, hgd, hd]
        rw [hc] at hg
        simp only [Box.mk.injEq] at hg
        subst hg
        cases h
      | some d =>
        cases hb : Nat.blt d top4 with
        | false =>
          have hc : cg ops o = .bad := by simp only [cg, hgd, hd, hb, cond_false]
          rw [hc] at hg
          simp only [Box.mk.injEq] at hg
          subst hg
          cases h
        | true =>
          have hc : cg ops o = .at (pathOf 41 d) want := by simp only [cg, hgd, hd, hb, cond_true]
          rw [hc] at hg
          simp only [Box.mk.injEq] at hg
          subst hg
          have hgv := getV_path 41 d fr.tmps (Nat.lt_trans (blt_true hb) (by decide))
          have hw : wantedS (pathOf 41 d) want fr = wantedA ops fr o := by
            unfold wantedS wantedA
            simp only [hgd, hd]
            rw [hgv]
            cases hx : fr.tmps.get d with
            | none => rfl
            | some u =>
              cases u <;> first | rfl | skip
              rename_i b
              change Bool.rec (motive := fun _ => Bool) (!want) want b = (b == want)
              cases b <;> cases want <;> rfl
          simp only at h
          rw [hw] at h
          cases hx : wantedA ops fr o with
          | true => rw [hx] at h; exact yes hx h
          | false => rw [hx] at h; exact no hx h

theorem seqB_some {x : R} {f : AFr → AW → R} (h : seqB x f = some r) : (∃ fr A, x = some (.normal, fr, A) ∧ f fr A = some r) ∨ (x = some r ∧ r.1 ≠ .normal) := by
  cases x with
  | none => cases h
  | some t =>
    obtain ⟨e, fr, A⟩ := t
    cases e with
    | normal => exact .inl ⟨fr, A, rfl, h⟩
    | exit id =>
      change some (AExit.exit id, fr, A) = some r at h
      exact .inr ⟨h, by simp only [Option.some.injEq] at h; subst h; simp⟩
    | ret =>
      change some (AExit.ret, fr, A) = some r at h
      exact .inr ⟨h, by simp only [Option.some.injEq] at h; subst h; simp⟩

theorem code_ref {ro : Option Nat} {c : Code} (h : evCodeS P E ih ro c fr A = some r) : evCode P E ih ro c fr A = some r := by
  unfold evCodeS compCode at h
  split at h
  · rename_i id ops
    obtain ⟨g, hg⟩ : ∃ g, compOps P E ops ops.toList = .mk g := by cases h : compOps P E ops ops.toList; exact ⟨_, rfl⟩
    rw [hg] at h
    obtain ⟨fr', A', h1, h2⟩ := ops_ref ops.toList g hg ih fr A r h
    simp only [evCode, h1, h2]
  · rename_i a b
    change seqB (ih.code ro a fr A) (fun fr A => ih.code ro b fr A) = some r at h
    simp only [evCode]
    rcases seqB_some h with ⟨fr1, A1, h1, h2⟩ | ⟨h1, h2⟩
    · rw [h1]; exact h2
    · rw [h1]
      obtain ⟨e, fr1, A1⟩ := r
      cases e <;> first | rfl | (exact absurd rfl h2)
  · rename_i c x y
    obtain ⟨v, h1, h2⟩ := opnd_co (f := fun v => asBool v none fun b => iB b (ih.code ro x fr A) (ih.code ro y fr A)) h
    rcases asBool_cases v none (fun b => iB b (ih.code ro x fr A) (ih.code ro y fr A)) with ⟨b, rfl, e⟩ | e
    · rw [e] at h2
      simp only [evCode, h1]
      cases b <;> exact h2
    · rw [e] at h2; cases h2
  · rename_i b
    change seqB (ih.code ro b fr A) (fun fr A => ih.code ro (.loop b) fr A) = some r at h
    simp only [evCode]
    rcases seqB_some h with ⟨fr1, A1, h1, h2⟩ | ⟨h1, h2⟩
    · rw [h1]; exact h2
    · rw [h1]
      obtain ⟨e, fr1, A1⟩ := r
      cases e <;> first | rfl | (exact absurd rfl h2)
  · exact h
  · exact h
  · exact h

/-- **THE STAGED EVALUATOR IS SOUND.** -/
theorem evS_sound (hX : ExtsOK P E) (hO : OvOK P E) (hD : ∀ n ih, CodeOK P n ih → CallOK P ih → DrawOK P E ih) : ∀ n, CodeOK P n (evS P E n) ∧ CallOK P (evS P E n)
  | 0 => by
    refine ⟨fun ro c fr A e fr' A' h => ?_, fun f args A v A' h => ?_⟩
    · change (none : Option (AExit × AFr × AW)) = _ at h
      cases h
    · change (none : Option (Value × AW)) = _ at h
      cases h
  | n + 1 => by
    obtain ⟨hC, hK⟩ := evS_sound hX hO hD n
    refine ⟨fun ro c fr A e fr' A' h m r a w hr hH hF hDf Q hQ => ?_, fun f args A v A' h => ?_⟩
    · change evCodeS P E (evS P E n) ro c fr A = _ at h
      exact evCode_ok hC hK hX (hD n _ hC hK) (code_ref h) hr hH hF hDf Q hQ
    · change evCall P E (evS P E n) f args A = _ at h
      exact evCall_ok hC hO h
theorem evS_ok (hm : P.follows .mixedOrders = true) (hX : ExtsOK P E) (hO : OvOK P E) (n : Nat) : CallOK P (evS P E n) :=
  (evS_sound hX hO (draw_ok hm hX) n).2
end
end Ev
end Go
namespace Go
namespace Ev
section
variable {P : Program} {E : Env} {ih : Fns} {fr fr' : AFr} {A A' : AW} {o : Oper}

/-! An operation looks at its operands alone. -/
theorem opnds_congr : ∀ {l : List Operand}, (∀ x ∈ l, opnd fr x = opnd fr' x) → opnds fr l = opnds fr' l
  | [], _ => rfl
  | x :: l, h => by
    simp only [opnds, h x List.mem_cons_self, opnds_congr fun y hy => h y (List.mem_cons_of_mem _ hy)]
theorem partsOf_congr : ∀ {l : List (Nat × Operand)}, (∀ x ∈ l.map (·.2), opnd fr x = opnd fr' x) → partsOf fr l = partsOf fr' l
  | [], _ => rfl
  | (i, x) :: l, h => by
    simp only [partsOf, h x (by simp), partsOf_congr fun y hy => h y (by rw [List.map_cons]; exact List.mem_cons_of_mem _ hy)]
theorem optOpnd_congr {x : Option Operand} (h : ∀ y ∈ x.toArray.toList, opnd fr y = opnd fr' y) : optOpnd fr x = optOpnd fr' x := by
  cases x with
  | none => rfl
  | some x => simp only [optOpnd, h x (by simp)]

theorem evR_congr {ty : TypeId} {op : Op} (h : ∀ x ∈ op.operands.toList, opnd fr x = opnd fr' x) : evR P fr A ty op = evR P fr' A ty op := by
  cases op
  case call c =>
    obtain ⟨callee, args, ats⟩ := c
    cases callee with
    | builtin b =>
      have hl : opnds fr args.toList = opnds fr' args.toList := opnds_congr fun x hx => h x (by simpa [Op.operands, Call.operands] using hx)
      simp only [evR, hl]
    | _ => rfl
  case build t ps =>
    have hl : partsOf fr ps.toList = partsOf fr' ps.toList := partsOf_congr fun x hx => h x (by simpa [Op.operands] using hx)
    simp only [evR, hl]
  case makeFunc f x y =>
    have h1 : opnds fr x.toList = opnds fr' x.toList := opnds_congr fun z hz => h z (by simp [Op.operands]; simp at hz; exact .inl hz)
    have h2 : opnds fr y.toList = opnds fr' y.toList := opnds_congr fun z hz => h z (by simp [Op.operands]; simp at hz; exact .inr hz)
    simp only [evR, h1, h2]
  case slice t x lo hi mx =>
    have h0 := h x (by simp [Op.operands])
    have h1 : optOpnd fr lo = optOpnd fr' lo := optOpnd_congr fun z hz => h z (by simp [Op.operands] at hz ⊢; exact .inr (.inl hz))
    have h2 : optOpnd fr hi = optOpnd fr' hi := optOpnd_congr fun z hz => h z (by simp [Op.operands] at hz ⊢; exact .inr (.inr (.inl hz)))
    have h3 : optOpnd fr mx = optOpnd fr' mx := optOpnd_congr fun z hz => h z (by simp [Op.operands] at hz ⊢; exact .inr (.inr (.inr hz)))
    simp only [evR, h0, h1, h2, h3]
  case pick c x y =>
    have h0 := h c (by simp [Op.operands]); have h1 := h x (by simp [Op.operands]); have h2 := h y (by simp [Op.operands])
    simp only [evR, h0, h1, h2]
  case binOp op t x y yt =>
    have h0 := h x (by simp [Op.operands]); have h1 := h y (by simp [Op.operands])
    simp only [evR, h0, h1]
  case indexAddr t x y =>
    have h0 := h x (by simp [Op.operands]); have h1 := h y (by simp [Op.operands])
    simp only [evR, h0, h1]
  case index t x y =>
    have h0 := h x (by simp [Op.operands]); have h1 := h y (by simp [Op.operands])
    simp only [evR, h0, h1]
  case lookup t x y b =>
    have h0 := h x (by simp [Op.operands]); have h1 := h y (by simp [Op.operands])
    simp only [evR, h0, h1]
  case move x => exact h x (by simp [Op.operands])
  case assign x => exact h x (by simp [Op.operands])
  all_goals first
    | rfl
    | (rename_i x; have h0 := h x (by simp [Op.operands]); simp only [evR, h0]; done)
    | (rename_i x _; have h0 := h x (by simp [Op.operands]); simp only [evR, h0]; done)
    | (rename_i x _ _; have h0 := h x (by simp [Op.operands]); simp only [evR, h0]; done)
    | (rename_i x _ _ _; have h0 := h x (by simp [Op.operands]); simp only [evR, h0]; done)

theorem evA_congr {op : Op} (h : ∀ x ∈ op.operands.toList, opnd fr x = opnd fr' x) : evA P fr op = evA P fr' op := by
  cases op
  case buildSlice t n ps =>
    have hl : partsOf fr ps.toList = partsOf fr' ps.toList := partsOf_congr fun x hx => h x (by simpa [Op.operands] using hx)
    simp only [evA, hl]
  case makeMap t x => cases x <;> rfl
  all_goals first
    | rfl
    | (rename_i x; have h0 := h x (by simp [Op.operands]); simp only [evA, h0]; done)

theorem evW_congr {ty : TypeId} {op : Op} (h : ∀ x ∈ op.operands.toList, opnd fr x = opnd fr' x) : evW P fr A ty op = evW P fr' A ty op := by
  cases op
  case call c =>
    obtain ⟨callee, args, ats⟩ := c
    cases callee with
    | builtin b =>
      have hl : opnds fr args.toList = opnds fr' args.toList := opnds_congr fun x hx => h x (by simpa [Op.operands, Call.operands] using hx)
      simp only [evW, hl]
    | _ => rfl
  case store t x y =>
    have h0 := h x (by simp [Op.operands]); have h1 := h y (by simp [Op.operands])
    simp only [evW, h0, h1]
  case makeSlice t x y =>
    have h0 := h x (by simp [Op.operands]); have h1 := h y (by simp [Op.operands])
    simp only [evW, h0, h1]
  case mapUpdate t x y z =>
    have h0 := h x (by simp [Op.operands]); have h1 := h y (by simp [Op.operands]); have h2 := h z (by simp [Op.operands])
    simp only [evW, evW.evIns, h0, h1, h2]
  case insert t x y z =>
    have h0 := h x (by simp [Op.operands]); have h1 := h y (by simp [Op.operands]); have h2 := h z (by simp [Op.operands])
    simp only [evW, evW.evIns, h0, h1, h2]
  all_goals first
    | rfl
    | (rename_i x; have h0 := h x (by simp [Op.operands]); simp only [evW, h0]; done)
    | (rename_i x _; have h0 := h x (by simp [Op.operands]); simp only [evW, h0]; done)

theorem evC_congr {op : Op} (h : ∀ x ∈ op.operands.toList, opnd fr x = opnd fr' x) : evC P E ih fr A op = evC P E ih fr' A op := by
  cases op
  case call c =>
    obtain ⟨callee, args, ats⟩ := c
    cases callee with
    | value f =>
      have h0 := h f (by simp [Op.operands, Call.operands])
      have hl : opnds fr args.toList = opnds fr' args.toList := opnds_congr fun x hx => h x (by simp [Op.operands, Call.operands]; simp at hx; exact .inr hx)
      simp only [evC, h0, hl]
    | _ => rfl
  all_goals rfl

theorem evOp_congr (h : ∀ x ∈ o.op.operands.toList, opnd fr x = opnd fr' x) : evOp P E ih fr A o = evOp P E ih fr' A o := by
  unfold evOp
  rw [evR_congr h, evA_congr h, evW_congr h, evC_congr h]

/-- The operands' temporaries are the frame's. -/
noncomputable def tmpsIn (n : Nat) (l : List Operand) : Bool :=
  List.rec (motive := fun _ => Bool) true (fun x _ ih => Operand.rec (motive := fun _ => Bool) (fun t => Bool.rec (motive := fun _ => Bool) false ih (Nat.blt t n)) (fun _ => ih) (fun _ => ih) (fun _ => ih) x) l
theorem tmpsIn_get {n : Nat} : ∀ {l : List Operand}, tmpsIn n l = true → ∀ t, Operand.tmp t ∈ l → t < n
  | [], _, t, h => by cases h
  | x :: l, h, t, ht => by
    cases x with
    | tmp d =>
      change Bool.rec (motive := fun _ => Bool) false (tmpsIn n l) (Nat.blt d n) = true at h
      cases hb : Nat.blt d n with
      | false => rw [hb] at h; cases h
      | true =>
        rw [hb] at h
        rcases List.mem_cons.1 ht with e | e
        · simp only [Operand.tmp.injEq] at e; subst e; exact blt_true hb
        · exact tmpsIn_get h t e
    | const v =>
      rcases List.mem_cons.1 ht with e | e
      · cases e
      · exact tmpsIn_get (l := l) h t e
    | global g =>
      rcases List.mem_cons.1 ht with e | e
      · cases e
      · exact tmpsIn_get (l := l) h t e
    | func f =>
      rcases List.mem_cons.1 ht with e | e
      · cases e
      · exact tmpsIn_get (l := l) h t e

theorem mask_opnd (hn : fr.n ≤ top4) (h : tmpsIn fr.n o.op.operands.toList = true) : ∀ x ∈ o.op.operands.toList, opnd fr x = opnd (maskFr fr o) x := by
  intro x hx
  cases x with
  | tmp t =>
    have ht := tmpsIn_get h t hx
    simp only [opnd, AFr.tmp]
    change some ((fr.tmps.get t).getD undef) = some (((maskT fr o.op.operands.toList .e).get t).getD undef)
    rw [maskT_get fr hn, if_pos ⟨ht, hx⟩]
  | _ => rfl
end
end Ev
end Go
namespace Go
namespace Ev
noncomputable section

/-- What an operation of a drawn region told, and what it would tell in another world. -/
structure RC where
  r : TRec
  g : AW → R

def encK : Value → AW → R := fun v A => some (.normal, ⟨.n (some v) .e .e .e .e, 0, []⟩, A)
def decV (x : R) (f : Value → Bool) : Bool := Option.rec (motive := fun _ => Bool) false (fun t => Prod.rec (motive := fun _ => Bool) (fun _ q => Prod.rec (motive := fun _ => Bool) (fun fr _ => f (getV .z fr.tmps)) q) t) x

abbrev SF := Fns → Nat → AFr → AW → (Value → AW → RC → R) → R
abbrev TF := Fns → Nat → AFr → AW → (List RC → AFr → AW → R) → R

def stepT (P : Program) (o : Oper) (f : F) : Box SF :=
  Bool.rec (motive := fun _ => Box SF)
    (.mk fun ih _ fr A k => bB (tmpsIn fr.n o.op.operands.toList) (f ih fr A fun v A' => k v A' ⟨⟨o, true, fr, maskFr fr o, A, v, .deferred⟩, fun Aj => f ih fr Aj encK⟩))
    (.mk fun _ id fr A k => oB (evA P (maskFr fr o) o.op) fun p => Prod.rec (motive := fun _ => R) (fun ob vf => k (vf id) ⟨A.heap.put fuel4 (some ob) id, A.next⟩ ⟨⟨o, true, fr, maskFr fr o, A, vf id, ob⟩, fun _ => none⟩) p)
    (Nat.beq (kind P o.op) 2)

def compTr (P : Program) (E : Env) (ops : Array Oper) (l : List Oper) : Box TF :=
  List.rec (motive := fun _ => Box TF) (.mk fun _ _ fr A k => k [] fr A)
    (fun o _ ih => Box.rec (motive := fun _ => Box TF) (fun f => Box.rec (motive := fun _ => Box TF) (fun s => Box.rec (motive := fun _ => Box TF) (fun t =>
      CG.rec (motive := fun _ => Box TF)
        (.mk fun h id fr A k => s h id fr A fun v A' rc => putB (cd o.dst) v fr fun fr' => t h (Nat.succ id) fr' A' fun rs fr2 A2 => k (rc :: rs) fr2 A2)
        (fun p want => .mk fun h id fr A k => iB (wantedS p want fr)
          (s h id fr A fun v A' rc => putB (cd o.dst) v fr fun fr' => t h (Nat.succ id) fr' A' fun rs fr2 A2 => k (rc :: rs) fr2 A2)
          (putB (cd o.dst) undef fr fun fr' => t h (Nat.succ id) fr' A fun rs fr2 A2 => k (⟨⟨o, false, fr, fr, A, undef, .deferred⟩, fun _ => none⟩ :: rs) fr2 A2))
        (.mk fun _ _ _ _ _ => none) (cg ops o)) ih) (stepT P o f)) (compOp P E o)) l

def stagesF (rs : List RC) : List RI → AW → List AW :=
  List.rec (motive := fun _ => List RI → AW → List AW) (fun _ A => [A])
    (fun r _ ih I A => List.rec (motive := fun _ => List AW) [A] (fun x I' _ => Bool.rec (motive := fun _ => List AW) (ih I' A) (r.r.A :: ih I' A) x.heavy) I) rs

def stageF (rd : Bool) (g : AW → R) (v : Value) (ob : AObj) (id lo hi c : Nat) (l : List AW) : Nat → Bool :=
  List.rec (motive := fun _ => Nat → Bool) (fun _ => true)
    (fun A _ ih j => Bool.rec (motive := fun _ => Bool)
      (Bool.rec (motive := fun _ => Bool)
        (Bool.rec (motive := fun _ => Bool) (ih (Nat.succ j)) (Option.rec (motive := fun _ => Bool) false (fun ob' => Bool.rec (motive := fun _ => Bool) false (ih (Nat.succ j)) (obEq ob' ob)) (A.get id)) (Nat.ble j hi))
        (Option.rec (motive := fun _ => Bool) (ih (Nat.succ j)) (fun _ => false) (A.get id)) (Nat.blt j c))
      (Bool.rec (motive := fun _ => Bool) (ih (Nat.succ j))
        (Bool.rec (motive := fun _ => Bool) (ih (Nat.succ j)) (decV (g A) fun u => Bool.rec (motive := fun _ => Bool) false (ih (Nat.succ j)) (vEq u v)) (Nat.ble j hi)) (Nat.ble lo j)) rd) l

def checkF (P : Program) (stages : List AW) (hv : List (Nat × Nat)) (rs : List RC) : List RI → Nat → Nat → Nat → Bool :=
  List.rec (motive := fun _ => List RI → Nat → Nat → Nat → Bool) (fun I _ _ _ => List.rec (motive := fun _ => Bool) true (fun _ _ _ => false) I)
    (fun r _ ih I i id c => List.rec (motive := fun _ => Bool) false (fun x I' _ =>
      Bool.rec (motive := fun _ => Bool) (ih I' (Nat.succ i) (Nat.succ id) (Bool.rec (motive := fun _ => Nat) c (Nat.succ c) x.heavy))
        (Bool.rec (motive := fun _ => Bool) false (ih I' (Nat.succ i) (Nat.succ id) (Bool.rec (motive := fun _ => Nat) c (Nat.succ c) x.heavy))
          (stageF (Nat.beq (kind P r.r.o.op) 1) r.g r.r.v r.r.ob id (loOf x.bef hv) (hiOf i hv) c stages 0)) (needs P r.r)) I) rs

def drawF (P : Program) (I : List RI) (n : Nat) (t : TF) (ih : Fns) (fr : AFr) (A : AW) : R :=
  bB (Nat.ble fr.n top4) (bB (Nat.ble (A.next + n) top4) (t ih A.next fr ⟨A.heap, A.next + n⟩ fun rs fr' A' => bB (checkF P (stagesF rs I A') (hvOf I 0) rs I 0 A.next 0) (some (.normal, fr', A'))))

def compCodeT (P : Program) (E : Env) (c : Code) : Box CF :=
  match c with
  | .region _ ops true => Option.rec (motive := fun _ => Box CF) (.mk fun _ _ _ _ => none) (fun I => Box.rec (motive := fun _ => Box CF) (fun t => .mk fun ih _ fr A => drawF P I ops.size t ih fr A) (compTr P E ops ops.toList)) (regionInfo P ops)
  | c => compCode P E c
def evCodeT (P : Program) (E : Env) (ih : Fns) (ro : Option Nat) (c : Code) (fr : AFr) (A : AW) : R :=
  Box.rec (motive := fun _ => R) (fun f => f ih ro fr A) (compCodeT P E c)
def evT (P : Program) (E : Env) (n : Nat) : Fns :=
  Nat.rec (motive := fun _ => Fns) fnsZero (fun _ ih => ⟨evCodeT P E ih, evCall P E ih⟩) n
end

section
variable {P : Program} {E : Env} {ih : Fns} {fr fr' : AFr} {A A' : AW} {o : Oper} {r : AExit × AFr × AW}

theorem decV_some {x : R} {f : Value → Bool} (h : decV x f = true) : ∃ e fr A, x = some (e, fr, A) ∧ f (getV .z fr.tmps) = true := by
  cases x with
  | none => cases h
  | some t => obtain ⟨e, fr, A⟩ := t; exact ⟨e, fr, A, rfl, h⟩

def Good (P : Program) (rc : RC) : Prop := rc.r.w = true → kind P rc.r.o.op = 1 → ∀ Aj f, decV (rc.g Aj) f = true → ∃ v, evR P rc.r.fr Aj rc.r.o.type rc.r.o.op = some v ∧ f v = true

theorem step_ref {f : F} {s : SF} (hf : compOp P E o = .mk f) (hs : stepT P o f = .mk s) (hn : fr.n ≤ top4) {id : Nat} {k : Value → AW → RC → R} (h : s ih id fr A k = some r) :
    ∃ v A' rc, evStep P E ih (maskFr fr o) A o id = some (v, A', rc.r.ob) ∧ rc.r = ⟨o, true, fr, maskFr fr o, A, v, rc.r.ob⟩ ∧ Good P rc ∧ k v A' rc = some r := by
  unfold stepT at hs
  cases hk : Nat.beq (kind P o.op) 2 with
  | true =>
    rw [hk] at hs
    simp only [Box.mk.injEq] at hs
    subst hs
    obtain ⟨⟨ob, vf⟩, h1, h2⟩ := oB_some h
    refine ⟨vf id, _, _, ?_, rfl, ?_, h2⟩
    · simp only [evStep, hk, cond_true, h1]
    · intro _ hk1
      have := beq_true hk
      change kind P o.op = 1 at hk1
      omega
  | false =>
    rw [hk] at hs
    simp only [Box.mk.injEq] at hs
    subst hs
    obtain ⟨h1, h2⟩ := bB_some h
    obtain ⟨v, A', h3, h4⟩ := op_ref f hf ih fr A _ r h2
    have hc := mask_opnd hn h1
    refine ⟨v, A', _, ?_, rfl, ?_, h4⟩
    · simp only [evStep, hk, cond_false, ← evOp_congr (A := A) (P := P) (E := E) (ih := ih) hc, h3]
    · intro _ hk1 Aj q hq
      change kind P o.op = 1 at hk1
      obtain ⟨e, fr1, A1, h5, h6⟩ := decV_some hq
      obtain ⟨u, A2, h7, h8⟩ := op_ref f hf ih fr Aj encK _ h5
      change some (AExit.normal, (⟨.n (some u) .e .e .e .e, 0, []⟩ : AFr), A2) = some (e, fr1, A1) at h8
      simp only [Option.some.injEq, Prod.mk.injEq] at h8
      obtain ⟨_, rfl, _⟩ := h8
      refine ⟨u, ?_, h6⟩
      change evR P (maskFr fr o) Aj o.type o.op = some u
      rw [← evR_congr (A := Aj) (P := P) hc]
      unfold evOp at h7
      rw [hk1] at h7
      simp only at h7
      split at h7
      · rename_i v2 hv2
        simp only [Option.some.injEq, Prod.mk.injEq] at h7
        rw [hv2, h7.1]
      · cases h7

theorem put_n {d : Option Tmp} {v : Value} (h : fr.put d v = some fr') : fr'.n = fr.n := by
  cases d with
  | none => simp only [AFr.put_none, Option.some.injEq] at h; rw [h]
  | some d =>
    rw [AFr.put_some] at h
    obtain ⟨_, h⟩ := bif_some' h
    simp only [Option.some.injEq] at h
    rw [← h]

theorem tr_ref {ops : Array Oper} : ∀ (l : List Oper) (t : TF), compTr P E ops l = .mk t → ∀ ih id fr A k r, fr.n ≤ top4 → t ih id fr A k = some r →
    ∃ rs fr' A', evTrace P E ih ops l id fr A = some (rs.map (·.r), fr', A') ∧ (∀ rc ∈ rs, Good P rc) ∧ k rs fr' A' = some r
  | [], t, ht, ih, id, fr, A, k, r, hn, h => by
    change Box.mk (fun _ _ fr A k => k [] fr A) = Box.mk t at ht
    simp only [Box.mk.injEq] at ht
    subst ht
    exact ⟨[], fr, A, rfl, fun rc hrc => (by cases hrc), h⟩
  | o :: l, t, ht, ih, id, fr, A, k, r, hn, h => by
    obtain ⟨f, hf⟩ : ∃ f, compOp P E o = .mk f := by cases h : compOp P E o; exact ⟨_, rfl⟩
    obtain ⟨s, hs⟩ : ∃ s, stepT P o f = .mk s := by cases h : stepT P o f; exact ⟨_, rfl⟩
    obtain ⟨t0, ht0⟩ : ∃ t0, compTr P E ops l = .mk t0 := by cases h : compTr P E ops l; exact ⟨_, rfl⟩
    have e : compTr P E ops (o :: l) = CG.rec (motive := fun _ => Box TF)
        (.mk fun h id fr A k => s h id fr A fun v A' rc => putB (cd o.dst) v fr fun fr' => t0 h (Nat.succ id) fr' A' fun rs fr2 A2 => k (rc :: rs) fr2 A2)
        (fun p want => .mk fun h id fr A k => iB (wantedS p want fr)
          (s h id fr A fun v A' rc => putB (cd o.dst) v fr fun fr' => t0 h (Nat.succ id) fr' A' fun rs fr2 A2 => k (rc :: rs) fr2 A2)
          (putB (cd o.dst) undef fr fun fr' => t0 h (Nat.succ id) fr' A fun rs fr2 A2 => k (⟨⟨o, false, fr, fr, A, undef, .deferred⟩, fun _ => none⟩ :: rs) fr2 A2))
        (.mk fun _ _ _ _ _ => none) (cg ops o) := by
      change Box.rec (motive := fun _ => Box TF) (fun f => Box.rec (motive := fun _ => Box TF) (fun s => Box.rec (motive := fun _ => Box TF) (fun t =>
      CG.rec (motive := fun _ => Box TF)
        (.mk fun h id fr A k => s h id fr A fun v A' rc => putB (cd o.dst) v fr fun fr' => t h (Nat.succ id) fr' A' fun rs fr2 A2 => k (rc :: rs) fr2 A2)
        (fun p want => .mk fun h id fr A k => iB (wantedS p want fr)
          (s h id fr A fun v A' rc => putB (cd o.dst) v fr fun fr' => t h (Nat.succ id) fr' A' fun rs fr2 A2 => k (rc :: rs) fr2 A2)
          (putB (cd o.dst) undef fr fun fr' => t h (Nat.succ id) fr' A fun rs fr2 A2 => k (⟨⟨o, false, fr, fr, A, undef, .deferred⟩, fun _ => none⟩ :: rs) fr2 A2))
        (.mk fun _ _ _ _ _ => none) (cg ops o)) (compTr P E ops l)) (stepT P o f)) (compOp P E o) = _
      rw [hf]
      dsimp only
      rw [hs, ht0]
    rw [e] at ht
    have yes : wantedA ops fr o = true → (s ih id fr A fun v A' rc => putB (cd o.dst) v fr fun fr' => t0 ih (Nat.succ id) fr' A' fun rs fr2 A2 => k (rc :: rs) fr2 A2) = some r →
        ∃ rs fr' A', evTrace P E ih ops (o :: l) id fr A = some (rs.map (·.r), fr', A') ∧ (∀ rc ∈ rs, Good P rc) ∧ k rs fr' A' = some r := fun hw h => by
      obtain ⟨v, A1, rc, h1, h2, h3, h4⟩ := step_ref hf hs hn h
      obtain ⟨fr1, h5, h6⟩ := putB_some h4
      obtain ⟨rs, fr', A', h7, h8, h9⟩ := tr_ref l t0 ht0 ih _ fr1 A1 _ r (by rw [put_n h5]; exact hn) h6
      refine ⟨rc :: rs, fr', A', ?_, fun rc' hrc => ?_, h9⟩
      · simp only [evTrace, hw, cond_true, h1, h5, h7, List.map_cons]
        rw [h2]
      · rcases List.mem_cons.1 hrc with rfl | hrc
        · exact h3
        · exact h8 rc' hrc
    have no : wantedA ops fr o = false → (putB (cd o.dst) undef fr fun fr' => t0 ih (Nat.succ id) fr' A fun rs fr2 A2 => k (⟨⟨o, false, fr, fr, A, undef, .deferred⟩, fun _ => none⟩ :: rs) fr2 A2) = some r →
        ∃ rs fr' A', evTrace P E ih ops (o :: l) id fr A = some (rs.map (·.r), fr', A') ∧ (∀ rc ∈ rs, Good P rc) ∧ k rs fr' A' = some r := fun hw h => by
      obtain ⟨fr1, h5, h6⟩ := putB_some h
      obtain ⟨rs, fr', A', h7, h8, h9⟩ := tr_ref l t0 ht0 ih _ fr1 A _ r (by rw [put_n h5]; exact hn) h6
      refine ⟨⟨⟨o, false, fr, fr, A, undef, .deferred⟩, fun _ => none⟩ :: rs, fr', A', ?_, fun rc' hrc => ?_, h9⟩
      · simp only [evTrace, hw, cond_false, h5, h7, List.map_cons]
      · rcases List.mem_cons.1 hrc with rfl | hrc
        · intro hw'; cases hw'
        · exact h8 rc' hrc
    cases hgd : o.guard with
    | none =>
      have hc : cg ops o = .no := by simp only [cg, hgd]
      rw [hc] at ht
      simp only [Box.mk.injEq] at ht
      subst ht
      exact yes (by simp only [wantedA, hgd]) h
    | some q =>
      obtain ⟨j, want⟩ := q
      cases hd : ((ops[j]?).bind (·.dst)) with
      | none =>
        have hc : cg ops o = .bad := by simp only [cg, hgd, hd]
        rw [hc] at ht
        simp only [Box.mk.injEq] at ht
        subst ht
        cases h
      | some d =>
        cases hb : Nat.blt d top4 with
        | false =>
          have hc : cg ops o = .bad := by simp only [cg, hgd, hd, hb, cond_false]
          rw [hc] at ht
          simp only [Box.mk.injEq] at ht
          subst ht
          cases h
        | true =>
          have hc : cg ops o = .at (pathOf 41 d) want := by simp only [cg, hgd, hd, hb, cond_true]
          rw [hc] at ht
          simp only [Box.mk.injEq] at ht
          subst ht
          have hw := wantedS_eq (fr := fr) hgd hd hb
          simp only at h
          rw [hw] at h
          cases hx : wantedA ops fr o with
          | true => rw [hx] at h; exact yes hx h
          | false => rw [hx] at h; exact no hx h

theorem stagesF_eq : ∀ (rs : List RC) (I : List RI) (A : AW), stagesF rs I A = stagesOf (rs.map (·.r)) I A
  | [], I, A => by cases I <;> rfl
  | r :: rs, [], A => rfl
  | r :: rs, x :: I, A => by
    change Bool.rec (motive := fun _ => List AW) (stagesF rs I A) (r.r.A :: stagesF rs I A) x.heavy = _
    rw [stagesF_eq rs I A]
    simp only [List.map_cons, stagesOf]
    cases x.heavy <;> rfl

theorem stageF_ok {rc : RC} {id lo hi c : Nat} (hg : Good P rc) (hw : rc.r.w = true) : ∀ (l : List AW) (j : Nat), stageF (Nat.beq (kind P rc.r.o.op) 1) rc.g rc.r.v rc.r.ob id lo hi c l j = true → stageOK P rc.r id lo hi c l j = true
  | [], j, _ => rfl
  | A :: l, j, h => by
    unfold stageOK
    cases hk : Nat.beq (kind P rc.r.o.op) 1 with
    | true =>
      rw [hk] at h
      simp only [cond_true]
      change Bool.rec (motive := fun _ => Bool) (stageF true rc.g rc.r.v rc.r.ob id lo hi c l (Nat.succ j))
        (Bool.rec (motive := fun _ => Bool) (stageF true rc.g rc.r.v rc.r.ob id lo hi c l (Nat.succ j)) (decV (rc.g A) fun u => Bool.rec (motive := fun _ => Bool) false (stageF true rc.g rc.r.v rc.r.ob id lo hi c l (Nat.succ j)) (vEq u rc.r.v)) (Nat.ble j hi)) (Nat.ble lo j) = true at h
      have hrec := stageF_ok (id := id) (lo := lo) (hi := hi) (c := c) hg hw l (Nat.succ j)
      rw [hk] at hrec
      cases h1 : Nat.ble lo j with
      | false =>
        rw [h1] at h
        simp only [Bool.false_and, cond_false, Bool.true_and]
        exact hrec h
      | true =>
        rw [h1] at h
        cases h2 : Nat.ble j hi with
        | false =>
          rw [h2] at h
          simp only [Bool.and_false, cond_false, Bool.true_and]
          exact hrec h
        | true =>
          rw [h2] at h
          obtain ⟨v, h3, h4⟩ := hg hw (beq_true hk) A _ h
          cases h5 : vEq v rc.r.v with
          | false => rw [h5] at h4; cases h4
          | true =>
            rw [h5] at h4
            simp only [Bool.and_self, cond_true, h3, h5, Bool.true_and]
            exact hrec h4
    | false =>
      rw [hk] at h
      simp only [cond_false]
      change Bool.rec (motive := fun _ => Bool)
        (Bool.rec (motive := fun _ => Bool) (stageF false rc.g rc.r.v rc.r.ob id lo hi c l (Nat.succ j)) (Option.rec (motive := fun _ => Bool) false (fun ob' => Bool.rec (motive := fun _ => Bool) false (stageF false rc.g rc.r.v rc.r.ob id lo hi c l (Nat.succ j)) (obEq ob' rc.r.ob)) (A.get id)) (Nat.ble j hi))
        (Option.rec (motive := fun _ => Bool) (stageF false rc.g rc.r.v rc.r.ob id lo hi c l (Nat.succ j)) (fun _ => false) (A.get id)) (Nat.blt j c) = true at h
      have hrec := stageF_ok (id := id) (lo := lo) (hi := hi) (c := c) hg hw l (Nat.succ j)
      rw [hk] at hrec
      cases h1 : Nat.blt j c with
      | true =>
        rw [h1] at h
        cases h2 : A.get id with
        | none =>
          rw [h2] at h
          simp only [cond_true, Bool.true_and]
          exact hrec h
        | some ob => rw [h2] at h; cases h
      | false =>
        rw [h1] at h
        cases h2 : Nat.ble j hi with
        | false =>
          rw [h2] at h
          simp only [cond_false, Bool.true_and]
          exact hrec h
        | true =>
          rw [h2] at h
          cases h3 : A.get id with
          | none => rw [h3] at h; cases h
          | some ob =>
            rw [h3] at h
            change Bool.rec (motive := fun _ => Bool) false (stageF false rc.g rc.r.v rc.r.ob id lo hi c l (Nat.succ j)) (obEq ob rc.r.ob) = true at h
            cases h4 : obEq ob rc.r.ob with
            | false => rw [h4] at h; cases h
            | true =>
              rw [h4] at h
              simp only [cond_false, cond_true, h4, Bool.true_and]
              exact hrec h

theorem checkF_ok {st : List AW} {hv : List (Nat × Nat)} : ∀ (rs : List RC) (I : List RI) (i id c : Nat), (∀ rc ∈ rs, Good P rc) → checkF P st hv rs I i id c = true → checkAll P st hv (rs.map (·.r)) I i id c = true
  | [], [], i, id, c, _, _ => rfl
  | [], x :: I, i, id, c, _, h => by cases h
  | r :: rs, [], i, id, c, _, h => by cases h
  | r :: rs, x :: I, i, id, c, hg, h => by
    have hc : (Bool.rec (motive := fun _ => Nat) c (Nat.succ c) x.heavy) = (bif x.heavy then Nat.succ c else c) := by cases x.heavy <;> rfl
    change Bool.rec (motive := fun _ => Bool) (checkF P st hv rs I (Nat.succ i) (Nat.succ id) (Bool.rec (motive := fun _ => Nat) c (Nat.succ c) x.heavy))
        (Bool.rec (motive := fun _ => Bool) false (checkF P st hv rs I (Nat.succ i) (Nat.succ id) (Bool.rec (motive := fun _ => Nat) c (Nat.succ c) x.heavy))
          (stageF (Nat.beq (kind P r.r.o.op) 1) r.g r.r.v r.r.ob id (loOf x.bef hv) (hiOf i hv) c st 0)) (needs P r.r) = true at h
    rw [hc] at h
    simp only [List.map_cons, checkAll]
    have hrec := checkF_ok (st := st) (hv := hv) rs I (Nat.succ i) (Nat.succ id) (bif x.heavy then Nat.succ c else c) fun rc hrc => hg rc (List.mem_cons_of_mem _ hrc)
    cases hn : needs P r.r with
    | false =>
      rw [hn] at h
      simp only [cond_false, Bool.true_and]
      exact hrec h
    | true =>
      rw [hn] at h
      cases hs : stageF (Nat.beq (kind P r.r.o.op) 1) r.g r.r.v r.r.ob id (loOf x.bef hv) (hiOf i hv) c st 0 with
      | false => rw [hs] at h; cases h
      | true =>
        rw [hs] at h
        have hw : r.r.w = true := by unfold needs at hn; exact (and_true hn).1
        simp only [cond_true, stageF_ok (hg r List.mem_cons_self) hw st 0 hs, Bool.true_and]
        exact hrec h

theorem draw_ref {ops : Array Oper} {I : List RI} {t : TF} (hI : regionInfo P ops = some I) (ht : compTr P E ops ops.toList = .mk t) (h : drawF P I ops.size t ih fr A = some r) :
    ∃ fr' A', evDraw P E ih ops fr A = some (fr', A') ∧ r = (.normal, fr', A') := by
  unfold drawF at h
  obtain ⟨hn, h⟩ := bB_some h
  obtain ⟨hx, h⟩ := bB_some h
  obtain ⟨rs, fr', A', h1, h2, h3⟩ := tr_ref ops.toList t ht ih _ fr _ _ r (ble_true hn) h
  obtain ⟨h4, h5⟩ := bB_some h3
  simp only [Option.some.injEq] at h5
  refine ⟨fr', A', ?_, h5.symm⟩
  rw [stagesF_eq] at h4
  unfold evDraw
  simp only [hI, hx, cond_true, h1, checkF_ok rs I 0 A.next 0 h2 h4]

theorem codeT_ref {ro : Option Nat} {c : Code} (h : evCodeT P E ih ro c fr A = some r) : evCode P E ih ro c fr A = some r := by
  unfold evCodeT compCodeT at h
  split at h
  · rename_i id ops
    cases hI : regionInfo P ops with
    | none => rw [hI] at h; cases h
    | some I =>
      obtain ⟨t, ht⟩ : ∃ t, compTr P E ops ops.toList = .mk t := by cases h : compTr P E ops ops.toList; exact ⟨_, rfl⟩
      rw [hI] at h
      simp only at h
      rw [ht] at h
      obtain ⟨fr', A', h1, h2⟩ := draw_ref hI ht h
      simp only [evCode, h1, h2]
  · exact code_ref h

/-- **THE STAGED EVALUATOR IS SOUND.** -/
theorem evT_sound (hX : ExtsOK P E) (hO : OvOK P E) (hD : ∀ n ih, CodeOK P n ih → CallOK P ih → DrawOK P E ih) : ∀ n, CodeOK P n (evT P E n) ∧ CallOK P (evT P E n)
  | 0 => by
    refine ⟨fun ro c fr A e fr' A' h => ?_, fun f args A v A' h => ?_⟩
    · change (none : Option (AExit × AFr × AW)) = _ at h
      cases h
    · change (none : Option (Value × AW)) = _ at h
      cases h
  | n + 1 => by
    obtain ⟨hC, hK⟩ := evT_sound hX hO hD n
    refine ⟨fun ro c fr A e fr' A' h m r a w hr hH hF hDf Q hQ => ?_, fun f args A v A' h => ?_⟩
    · change evCodeT P E (evT P E n) ro c fr A = _ at h
      exact evCode_ok hC hK hX (hD n _ hC hK) (codeT_ref h) hr hH hF hDf Q hQ
    · change evCall P E (evT P E n) f args A = _ at h
      exact evCall_ok hC hO h
theorem evT_ok (hm : P.follows .mixedOrders = true) (hX : ExtsOK P E) (hO : OvOK P E) (n : Nat) : CallOK P (evT P E n) :=
  (evT_sound hX hO (draw_ok hm hX) n).2
end
end Ev
end Go
namespace Go
namespace Ev

/-! What products, turns and sums of bits come to. -/
def bAnd (a b : Int) : Int := IntKind.u64.wrap ((BitVec.ofInt IntKind.u64.bits a &&& BitVec.ofInt IntKind.u64.bits b).toNat)
def bShr (a : Int) : Int := a.fdiv (2 ^ (min (Int.toNat 32) IntKind.u64.bits))
def bW (a : Int) : Int := wrapF .u64 a
def mulHi (x y : Int) : Int :=
  bW (bW (bW (bShr x * bShr y) + bShr (bW (bW (bShr x * bAnd y 4294967295) + bShr (bW (bAnd x 4294967295 * bAnd y 4294967295))))) +
    bShr (bW (bAnd (bW (bW (bShr x * bAnd y 4294967295) + bShr (bW (bAnd x 4294967295 * bAnd y 4294967295)))) 4294967295 + bW (bAnd x 4294967295 * bShr y))))
def rOr (a b : Int) : Int := IntKind.u32.wrap ((BitVec.ofInt IntKind.u32.bits a ||| BitVec.ofInt IntKind.u32.bits b).toNat)
def rXor (a b : Int) : Int := IntKind.u32.wrap ((BitVec.ofInt IntKind.u32.bits a ^^^ BitVec.ofInt IntKind.u32.bits b).toNat)
def rShl (a : Int) (s : Int) : Int := IntKind.u32.wrap (a * 2 ^ (min (Int.toNat s) IntKind.u32.bits))
def rShr (a : Int) (s : Int) : Int := a.fdiv (2 ^ (min (Int.toNat s) IntKind.u32.bits))
def rRot (a : Int) (s t : Int) : Int := rOr (rShl a s) (rShr a t)

theorem bW_nat (m : Nat) : bW (Int.ofNat m) = Int.ofNat (m % 18446744073709551616) := by
  unfold bW
  simp only [wrapF]
  cases h : Nat.blt m 18446744073709551616 with
  | true => rw [Nat.mod_eq_of_lt (blt_true h)]; rfl
  | false => rfl
theorem bShr_nat (m : Nat) : bShr (Int.ofNat m) = Int.ofNat (m / 4294967296) := by
  unfold bShr
  have : (2 : Int) ^ (min (Int.toNat 32) IntKind.u64.bits) = Int.ofNat 4294967296 := by decide
  rw [this]
  exact (Int.ofNat_fdiv m 4294967296).symm
theorem bAnd_nat {m : Nat} (h : m < 18446744073709551616) : bAnd (Int.ofNat m) 4294967295 = Int.ofNat (m % 4294967296) := by
  unfold bAnd
  rw [BitVec.toNat_and]
  have h1 : (BitVec.ofInt IntKind.u64.bits (Int.ofNat m)).toNat = m := ofInt_nat (kk := .u64) h
  have h2 : (BitVec.ofInt IntKind.u64.bits 4294967295).toNat = 4294967295 := by decide
  rw [h1, h2]
  have h3 : m &&& 4294967295 = m % 4294967296 := Nat.and_two_pow_sub_one_eq_mod m 32
  rw [h3]
  have h4 : m % 4294967296 < 4294967296 := Nat.mod_lt _ (by decide)
  exact wrap_bound (kk := .u64) (show m % 4294967296 < 18446744073709551616 by omega)

theorem mulHi_nat {x y : Nat} (hx : x < 18446744073709551616) (hy : y < 18446744073709551616) : mulHi (Int.ofNat x) (Int.ofNat y) = Int.ofNat (x * y / 18446744073709551616) := by
  obtain ⟨bd, bt, bw, hhi⟩ := Go.Lib.mul64_hi x y hx hy
  have ba := Go.Lib.half_mul_le (a := x / 4294967296) (b := y / 4294967296) (by omega) (by omega)
  have bb := Go.Lib.half_mul_le (a := x / 4294967296) (b := y % 4294967296) (by omega) (by omega)
  have bc := Go.Lib.half_mul_le (a := x % 4294967296) (b := y / 4294967296) (by omega) (by omega)
  have ba' : x / 4294967296 * (y / 4294967296) < 18446744073709551616 := by omega
  have bb' : x / 4294967296 * (y % 4294967296) < 18446744073709551616 := by omega
  have bc' : x % 4294967296 * (y / 4294967296) < 18446744073709551616 := by omega
  have bh1 : x / 4294967296 * (y / 4294967296) + (x / 4294967296 * (y % 4294967296) + x % 4294967296 * (y % 4294967296) / 4294967296) / 4294967296 < 18446744073709551616 := by omega
  have bh : x / 4294967296 * (y / 4294967296) + (x / 4294967296 * (y % 4294967296) + x % 4294967296 * (y % 4294967296) / 4294967296) / 4294967296 + ((x / 4294967296 * (y % 4294967296) + x % 4294967296 * (y % 4294967296) / 4294967296) % 4294967296 + x % 4294967296 * (y / 4294967296)) / 4294967296 < 18446744073709551616 := by omega
  have im : ∀ a b : Nat, Int.ofNat a * Int.ofNat b = Int.ofNat (a * b) := fun a b => rfl
  have ia : ∀ a b : Nat, Int.ofNat a + Int.ofNat b = Int.ofNat (a + b) := fun a b => rfl
  unfold mulHi
  simp only [bAnd_nat hx, bAnd_nat hy, bShr_nat, im, ia, bW_nat, Nat.mod_eq_of_lt bd, Nat.mod_eq_of_lt bb', Nat.mod_eq_of_lt bt, bAnd_nat bt, Nat.mod_eq_of_lt bc', Nat.mod_eq_of_lt bw, Nat.mod_eq_of_lt ba', Nat.mod_eq_of_lt bh1, Nat.mod_eq_of_lt bh]
  rw [hhi]

theorem rShl_nat {m s : Nat} (hs : s ≤ 32) : rShl (Int.ofNat m) (Int.ofNat s) = Int.ofNat (m * 2 ^ s % 4294967296) := by
  unfold rShl
  have e : min (Int.toNat (Int.ofNat s)) IntKind.u32.bits = s := Nat.min_eq_left hs
  rw [e]
  have e2 : (Int.ofNat m * 2 ^ s) = Int.ofNat (m * 2 ^ s) := by simp
  rw [e2]
  rfl
theorem rShr_nat {m s : Nat} (hs : s ≤ 32) : rShr (Int.ofNat m) (Int.ofNat s) = Int.ofNat (m / 2 ^ s) := by
  unfold rShr
  have e : min (Int.toNat (Int.ofNat s)) IntKind.u32.bits = s := Nat.min_eq_left hs
  rw [e]
  have : ((2 : Int) ^ s) = Int.ofNat (2 ^ s) := by simp
  rw [this]
  exact (Int.ofNat_fdiv m (2 ^ s)).symm
theorem rOr_nat {m n : Nat} (hm : m < 4294967296) (hn : n < 4294967296) : rOr (Int.ofNat m) (Int.ofNat n) = Int.ofNat (Nat.lor m n) := by
  unfold rOr
  rw [BitVec.toNat_or, ofInt_nat (kk := .u32) hm, ofInt_nat (kk := .u32) hn]
  exact wrap_bound (kk := .u32) (show m ||| n < 2 ^ 32 from Nat.or_lt_two_pow hm hn)
theorem rXor_nat {m n : Nat} (hm : m < 4294967296) (hn : n < 4294967296) : rXor (Int.ofNat m) (Int.ofNat n) = Int.ofNat (Nat.xor m n) := by
  unfold rXor
  rw [BitVec.toNat_xor, ofInt_nat (kk := .u32) hm, ofInt_nat (kk := .u32) hn]
  exact wrap_bound (kk := .u32) (show m ^^^ n < 2 ^ 32 from Nat.xor_lt_two_pow hm hn)
theorem xor_lt {m n : Nat} (hm : m < 4294967296) (hn : n < 4294967296) : Nat.xor m n < 4294967296 := Nat.xor_lt_two_pow (n := 32) hm hn
def rot (x s t : Nat) : Nat := Nat.lor (Nat.mod (Nat.mul x (Nat.pow 2 s)) 4294967296) (Nat.div x (Nat.pow 2 t))
theorem rot_lt {x s t : Nat} (hx : x < 4294967296) : rot x s t < 4294967296 := by
  have h1 : x * 2 ^ s % 4294967296 < 2 ^ 32 := Nat.mod_lt _ (by decide)
  have h2 : x / 2 ^ t < 2 ^ 32 := Nat.lt_of_le_of_lt (Nat.div_le_self _ _) hx
  exact Nat.or_lt_two_pow h1 h2
theorem rRot_nat {x s t : Nat} (hs : s ≤ 32) (ht : t ≤ 32) (hx : x < 4294967296) : rRot (Int.ofNat x) (Int.ofNat s) (Int.ofNat t) = Int.ofNat (rot x s t) := by
  unfold rRot
  rw [rShl_nat hs, rShr_nat ht]
  exact rOr_nat (Nat.mod_lt _ (by decide)) (Nat.lt_of_le_of_lt (Nat.div_le_self _ _) hx)

/-- What 'ror' answers for two, and three, turns. -/
def turn2 (x a b : Nat) : Nat := Nat.xor (Nat.xor 0 (rot x (32 - a) a)) (rot x (32 - b) b)
def turn3 (x a b c : Nat) : Nat := Nat.xor (Nat.xor (Nat.xor 0 (rot x (32 - a) a)) (rot x (32 - b) b)) (rot x (32 - c) c)
theorem turn2_nat {x a b : Nat} (ha : a ≤ 32) (hb : b ≤ 32) (hx : x < 4294967296) :
    rXor (rXor 0 (rRot (Int.ofNat x) (Int.ofNat (32 - a)) (Int.ofNat a))) (rRot (Int.ofNat x) (Int.ofNat (32 - b)) (Int.ofNat b)) = Int.ofNat (turn2 x a b) := by
  rw [rRot_nat (Nat.sub_le _ _) ha hx, rRot_nat (Nat.sub_le _ _) hb hx]
  rw [show (0 : Int) = Int.ofNat 0 from rfl, rXor_nat (by decide) (rot_lt hx), rXor_nat (xor_lt (by decide) (rot_lt hx)) (rot_lt hx)]
  rfl
theorem turn3_nat {x a b c : Nat} (ha : a ≤ 32) (hb : b ≤ 32) (hc : c ≤ 32) (hx : x < 4294967296) :
    rXor (rXor (rXor 0 (rRot (Int.ofNat x) (Int.ofNat (32 - a)) (Int.ofNat a))) (rRot (Int.ofNat x) (Int.ofNat (32 - b)) (Int.ofNat b))) (rRot (Int.ofNat x) (Int.ofNat (32 - c)) (Int.ofNat c)) = Int.ofNat (turn3 x a b c) := by
  rw [turn2_nat ha hb hx, rRot_nat (Nat.sub_le _ _) hc hx]
  exact rXor_nat (xor_lt (xor_lt (by decide) (rot_lt hx)) (rot_lt hx)) (rot_lt hx)
end Ev
end Go
namespace Go
namespace Ev
section
variable {P : Program} {m : Mp} {A A0 A1 : AW} {w w' : World} {f : FuncId}

abbrev Ov := FuncId → List Value → AW → Option (Option (Value × AW))
def OvP (P : Program) (ov : Ov) : Prop := ∀ f args A v A', ov f args A = some (some (v, A')) → CallAt P f args A v A'

noncomputable def ovNone : Ov := fun _ _ _ => none
theorem ovNone_ok : OvP P ovNone := fun _ _ _ _ _ h => by cases h
noncomputable def ovOr (a b : Ov) : Ov := fun f args A => Option.rec (motive := fun _ => Option (Option (Value × AW))) (b f args A) (fun r => some r) (a f args A)
theorem ovOr_ok {a b : Ov} (ha : OvP P a) (hb : OvP P b) : OvP P (ovOr a b) := fun f args A v A' h => by
  unfold ovOr at h
  cases hx : a f args A with
  | none => rw [hx] at h; exact hb f args A v A' h
  | some r =>
    rw [hx] at h
    simp only [Option.some.injEq] at h
    subst h
    exact ha f args A v A' hx

/-- One function alone. -/
noncomputable def ovAt (f : FuncId) (g : List Value → AW → Option (Value × AW)) : Ov := fun f' args A =>
  Bool.rec (motive := fun _ => Option (Option (Value × AW))) none (Option.rec (motive := fun _ => Option (Option (Value × AW))) none (fun r => some (some r)) (g args A)) (Nat.beq f' f)
theorem ovAt_ok {g : List Value → AW → Option (Value × AW)} (h : ∀ args A v A', g args A = some (v, A') → CallAt P f args A v A') : OvP P (ovAt f g) := fun f' args A v A' hh => by
  unfold ovAt at hh
  cases hf : Nat.beq f' f with
  | false => rw [hf] at hh; cases hh
  | true =>
    rw [hf] at hh
    have e := beq_true hf
    subst e
    cases hg : g args A with
    | none => rw [hg] at hh; cases hh
    | some r =>
      rw [hg] at hh
      simp only [Option.some.injEq] at hh
      subst hh
      exact h args A v A' hg

/-! math/bits.Mul64 -/
noncomputable def mulG (args : List Value) (A : AW) : Option (Value × AW) :=
  match args with
  | [.int .u64 (.ofNat x), .int .u64 (.ofNat y)] =>
    bif Nat.blt x 18446744073709551616 && Nat.blt y 18446744073709551616 then
      some (.tuple ⟨[.int .u64 (.ofNat (Nat.div (Nat.mul x y) 18446744073709551616)), .int .u64 (.ofNat (Nat.mod (Nat.mul x y) 18446744073709551616))]⟩, A)
    else none
  | _ => none
theorem mulG_ok {ev : Fns} (hK : CallOK P ev) (hr : ∀ x y : Nat, ∃ A1, ev.call f [.int .u64 (.ofNat x), .int .u64 (.ofNat y)] ⟨.e, 0⟩ = some (.tuple ⟨[.int .u64 (mulHi (.ofNat x) (.ofNat y)), .int .u64 (bW (.ofNat x * .ofNat y))]⟩, A1)) :
    ∀ args A v A', mulG args A = some (v, A') → CallAt P f args A v A' := fun args A v A' h => by
  unfold mulG at h
  split at h
  · rename_i x y
    obtain ⟨hc, h⟩ := bif_some' h
    obtain ⟨h1, h2⟩ := and_true hc
    simp only [Option.some.injEq, Prod.mk.injEq] at h
    obtain ⟨rfl, rfl⟩ := h
    obtain ⟨A1, hr⟩ := hr x y
    rw [mulHi_nat (blt_true h1) (blt_true h2), show Int.ofNat x * Int.ofNat y = Int.ofNat (x * y) from rfl, bW_nat] at hr
    exact call_pure (hK _ _ _ _ _ hr) rfl rfl
  · cases h

/-! A call that reads one row of plain cells. -/
noncomputable def one (c : List Value) (e : TypeId) : AW := ⟨(T4.e).put fuel4 (some (.cells c e)) 0, 1⟩
theorem one_get (c : List Value) (e : TypeId) (i : Nat) : (one c e).get i = if i = 0 then some (.cells c e) else none := by
  unfold one AW.get
  rw [get_put4 _ 0 i _ (by decide), T4.get_e]
noncomputable def obs1 (x : Option (Value × AW)) : Option (Value × List Value × TypeId) :=
  match x with
  | some (v, A) => (match A.get 0 with | some (.cells c e) => some (v, c, e) | _ => none)
  | none => none
theorem obs1_some {x : Option (Value × AW)} {v : Value} {c : List Value} {e : TypeId} (h : obs1 x = some (v, c, e)) : ∃ A1, x = some (v, A1) ∧ A1.get 0 = some (.cells c e) := by
  unfold obs1 at h
  split at h
  · rename_i v' A1
    split at h
    · rename_i c' e' hg
      simp only [Option.some.injEq, Prod.mk.injEq] at h
      obtain ⟨rfl, rfl, rfl⟩ := h
      exact ⟨A1, rfl, hg⟩
    · cases h
  · cases h

theorem call_one {c : List Value} {e : TypeId} {o len cap : Nat} {u v : Value} {b : Nat} (h : CallAt P f [u, .slice (some ⟨0, o, none⟩) len cap] (one c e) v A1)
    (h0 : A1.get 0 = some (.cells c e)) (hc : vPlains c = true) (hu : vPlain u = true) (hp : vPlain v = true) (hb : A.get b = some (.cells c e)) :
    CallAt P f [u, .slice (some ⟨b, o, none⟩) len cap] A v A := by
  intro m args' w hH hv R hR
  obtain ⟨args'⟩ := args'
  simp only at hv
  cases hv with
  | cons hx hv =>
    cases hv with
    | cons hy hv =>
      cases hv
      have hx' := VR.plain hx hu
      subst hx'
      cases hy with
      | slice hmb hcc hl ha =>
        rename_i cc lb aa
        let m0 : Mp := fun i => if i = 0 then some lb else none
        have m00 : m0 0 = some lb := rfl
        have hm0 : ∀ {i l}, m0 i = some l → i = 0 ∧ l = lb := fun {i l} hi => by
          simp only [m0] at hi
          split at hi
          · rename_i q; simp only [Option.some.injEq] at hi; exact ⟨q, hi.symm⟩
          · cases hi
        have hsome : ∀ {i : Nat} {ob : AObj}, (one c e).get i = some ob → i = 0 ∧ ob = .cells c e := fun {i ob} hi => by
          rw [one_get] at hi
          split at hi
          · rename_i q; simp only [Option.some.injEq] at hi; exact ⟨q, hi.symm⟩
          · cases hi
        have hH0 : HR P m0 (one c e) w := by
          refine ⟨(show 1 ≤ top4 by decide), fun i ob hi => ?_, fun i l hi => ?_, fun i j oi oj li lj hi hj hmi hmj hq => ?_, fun i ob l hi hmi => ?_⟩
          · rw [(hsome hi).1]; exact Nat.lt_succ_self 0
          · rw [(hm0 hi).1]; exact Nat.lt_succ_self 0
          · rw [(hm0 hmi).1, (hm0 hmj).1]
          · obtain ⟨q1, q2⟩ := hsome hi
            rw [q1, m00] at hmi
            simp only [Option.some.injEq] at hmi
            subst hmi
            rw [q2]
            exact objr_plain hc (hH.obj b _ _ hb hmb)
        refine h m0 _ w hH0 (.cons (VR.refl_plain m0 _ hu) (.cons (.slice m00 hcc hl ha) .nil)) R fun m' v' w' q1 q2 q3 => ?_
        have ev := VR.plain q3 hp
        have o0 := q1.obj 0 _ _ h0 (q2.le _ _ m00)
        have hown : ∀ r, ¬ Owned A m r → ¬ Owned (one c e) m0 r := fun r hno ⟨i, ob, l, hi, hmi, hq⟩ => by
          obtain ⟨_, rfl⟩ := hm0 hmi
          exact hno ⟨b, _, _, hb, hmb, hq⟩
        refine hR m v' w' ⟨hH.top, hH.live, hH.dom, hH.inj, fun i ob l hi hmi => ?_⟩
          ⟨Mp.le_refl m, Nat.le_refl _, fun i l q4 q5 => (by rw [q4] at q5; cases q5), q2.size, fun r hr hno => ⟨(q2.frame r hr (hown r hno)).1, hno⟩, q2.tape, q2.os, q2.out⟩
          (by rw [ev]; exact VR.refl_plain m v hp)
        by_cases q' : i = b
        · subst q'
          rw [hb] at hi
          rw [hmb] at hmi
          simp only [Option.some.injEq] at hi hmi
          subst hi
          subst hmi
          exact objr_plain hc o0
        · refine (hH.obj i ob l hi hmi).mono (Mp.le_refl m) (q2.frame _ (hH.blk_lt hi hmi) fun ⟨i', ob', l', hi', hmi', hq⟩ => ?_).1
          obtain ⟨_, rfl⟩ := hm0 hmi'
          exact q' (hH.inj i b _ _ l _ hi hb hmi hmb hq.symm)

/-! 'ror' -/
noncomputable def i64s (l : List Nat) : List Value := l.map fun n => .int .i64 (.ofNat n)
noncomputable def rorG (e : TypeId) (l : List Nat) (g : Nat → Nat) (args : List Value) (A : AW) : Option (Value × AW) :=
  match args with
  | [.int .u32 (.ofNat x), .slice (some ⟨b, 0, none⟩) len cap] =>
    bif Nat.beq len l.length && Nat.beq cap l.length && Nat.blt x 4294967296 then
      (match A.get b with
       | some (.cells c e') => bif Nat.beq e' e && vEqs c (i64s l) then some (.int .u32 (.ofNat (g x)), A) else none
       | _ => none)
    else none
  | _ => none
theorem i64s_plain : ∀ (l : List Nat), vPlains (i64s l) = true
  | [] => rfl
  | n :: l => by
    change (true && vPlains (i64s l)) = true
    rw [i64s_plain l]; rfl
theorem rorG_ok {ev : Fns} (hK : CallOK P ev) {e : TypeId} {l : List Nat} {g : Nat → Nat}
    (hr : ∀ x : Nat, x < 4294967296 → obs1 (ev.call f [.int .u32 (.ofNat x), .slice (some ⟨0, 0, none⟩) l.length l.length] (one (i64s l) e)) = some (.int .u32 (.ofNat (g x)), i64s l, e)) :
    ∀ args A v A', rorG e l g args A = some (v, A') → CallAt P f args A v A' := fun args A v A' h => by
  unfold rorG at h
  split at h
  · rename_i x b len cap
    obtain ⟨q1, q2⟩ := bif_some' h
    obtain ⟨q3, q4⟩ := and_true q1
    obtain ⟨q5, q6⟩ := and_true q3
    have e1 := beq_true q5
    have e2 := beq_true q6
    cases hg : A.get b with
    | none => rw [hg] at q2; cases q2
    | some ob =>
      rw [hg] at q2
      cases ob with
      | cells c e' =>
        obtain ⟨q7, q8⟩ := bif_some' q2
        obtain ⟨q9, q10⟩ := and_true q7
        have e3 := beq_true q9
        have e4 := vEqs_eq _ _ q10
        simp only [Option.some.injEq, Prod.mk.injEq] at q8
        obtain ⟨rfl, rfl⟩ := q8
        rw [e1, e2]
        rw [e3, e4] at hg
        obtain ⟨A1, h6, h7⟩ := obs1_some (hr x (blt_true q4))
        exact call_one (hK _ _ _ _ _ h6) h7 (i64s_plain l) rfl rfl hg
      | _ => cases q2
  · cases h

/-! Rows of calls of plain values with plain answers. -/
structure PRow where
  f : FuncId
  args : List Value
  v : Value
noncomputable def rowIs (r : PRow) (x : Option (Value × AW)) : Bool :=
  vPlains r.args && vPlain r.v && (match x with | some (v, _) => vEq v r.v | none => false)
noncomputable def rowsIs (ev : Fns) (l : List PRow) : Bool :=
  List.rec (motive := fun _ => Bool) true (fun r _ ih => Bool.rec (motive := fun _ => Bool) false ih (rowIs r (ev.call r.f r.args ⟨.e, 0⟩))) l
def Known (P : Program) (l : List PRow) : Prop := ∀ r ∈ l, ∀ A, CallAt P r.f r.args A r.v A
theorem rows_known {ev : Fns} (hK : CallOK P ev) : ∀ {l : List PRow}, rowsIs ev l = true → Known P l
  | [], _, r, hr => by cases hr
  | r0 :: l, h, r, hr => by
    change Bool.rec (motive := fun _ => Bool) false (rowsIs ev l) (rowIs r0 (ev.call r0.f r0.args ⟨.e, 0⟩)) = true at h
    cases hx : rowIs r0 (ev.call r0.f r0.args ⟨.e, 0⟩) with
    | false => rw [hx] at h; cases h
    | true =>
      rw [hx] at h
      rcases List.mem_cons.1 hr with rfl | hr
      · unfold rowIs at hx
        obtain ⟨hx, h1⟩ := and_true hx
        obtain ⟨h2, h3⟩ := and_true hx
        split at h1
        · rename_i v A1 hc
          have := vEq_eq _ _ h1
          subst this
          exact fun A => call_pure (hK _ _ _ _ _ hc) h2 h3
        · cases h1
      · exact rows_known hK h r hr
theorem Known.append {a b : List PRow} (ha : Known P a) (hb : Known P b) : Known P (a ++ b) := fun r hr => by
  rcases List.mem_append.1 hr with h | h
  · exact ha r h
  · exact hb r h
noncomputable def ovRows (l : List PRow) : Ov := fun f args A =>
  List.rec (motive := fun _ => Option (Option (Value × AW))) none (fun r _ ih => Bool.rec (motive := fun _ => Option (Option (Value × AW))) ih (Bool.rec (motive := fun _ => Option (Option (Value × AW))) ih (some (some (r.v, A))) (vEqs args r.args)) (Nat.beq f r.f)) l
theorem ovRows_ok : ∀ {l : List PRow}, Known P l → OvP P (ovRows l)
  | [], _ => fun _ _ _ _ _ h => by cases h
  | r :: l, hk => fun f args A v A' h => by
    have hl : Known P l := fun r' hr => hk r' (List.mem_cons_of_mem _ hr)
    change Bool.rec (motive := fun _ => Option (Option (Value × AW))) (ovRows l f args A) (Bool.rec (motive := fun _ => Option (Option (Value × AW))) (ovRows l f args A) (some (some (r.v, A))) (vEqs args r.args)) (Nat.beq f r.f) = some (some (v, A')) at h
    cases h1 : Nat.beq f r.f with
    | false => rw [h1] at h; exact ovRows_ok hl f args A v A' h
    | true =>
      rw [h1] at h
      cases h2 : vEqs args r.args with
      | false => rw [h2] at h; exact ovRows_ok hl f args A v A' h
      | true =>
        rw [h2] at h
        simp only [Option.some.injEq, Prod.mk.injEq] at h
        obtain ⟨rfl, rfl⟩ := h
        have e1 := beq_true h1
        have e2 := vEqs_eq _ _ h2
        subst e1
        subst e2
        exact hk r List.mem_cons_self A

/-! Rows of 'press': a state turned by a block. -/
structure SRow where
  c : List Value
  e : TypeId
  d : List Value
  e' : TypeId
  o : Nat
  len : Nat
  cap : Nat
  c1 : List Value
noncomputable def isCells (x : Option AObj) (c : List Value) (e : TypeId) : Bool :=
  match x with
  | some (.cells c' e') => Nat.beq e' e && vEqs c' c
  | _ => false
theorem isCells_some {x : Option AObj} {c : List Value} {e : TypeId} (h : isCells x c e = true) : x = some (.cells c e) := by
  unfold isCells at h
  split at h
  · obtain ⟨h1, h2⟩ := and_true h
    rw [beq_true h1, vEqs_eq _ _ h2]
  · cases h
noncomputable def sRowIs (r : SRow) (x : Option (Value × AW)) : Bool :=
  vPlains r.c && vPlains r.d && vPlains r.c1 && (match x with | some (v, A) => vEq v (.tuple ⟨[]⟩) && isCells (A.get 0) r.c1 r.e && isCells (A.get 1) r.d r.e' | none => false)
noncomputable def sCall (ev : Fns) (f : FuncId) (r : SRow) : Option (Value × AW) := ev.call f [.pointer (some ⟨0, 0, none⟩), .slice (some ⟨1, r.o, none⟩) r.len r.cap] (two r.c r.e r.d r.e')
def SKnown (P : Program) (f : FuncId) (l : List SRow) : Prop := ∀ r ∈ l, ∀ A b b2, A.get b = some (.cells r.c r.e) → A.get b2 = some (.cells r.d r.e') → b ≠ b2 →
  CallAt P f [.pointer (some ⟨b, 0, none⟩), .slice (some ⟨b2, r.o, none⟩) r.len r.cap] A (.tuple ⟨[]⟩) (A.set b (.cells r.c1 r.e))
theorem sRow_known {ev : Fns} (hK : CallOK P ev) {r : SRow} (h : sRowIs r (sCall ev f r) = true) : SKnown P f [r] := fun r' hr A b b2 hb hb2 hne => by
  rw [List.mem_singleton] at hr
  subst hr
  unfold sRowIs at h
  obtain ⟨h, h1⟩ := and_true h
  obtain ⟨h, h2⟩ := and_true h
  obtain ⟨h3, h4⟩ := and_true h
  split at h1
  · rename_i v A1 hc
    obtain ⟨h1, h5⟩ := and_true h1
    obtain ⟨h6, h7⟩ := and_true h1
    have := vEq_eq _ _ h6
    subst this
    exact call_two (hK _ _ _ _ _ hc) (isCells_some h7) (isCells_some h5) h3 h2 h4 rfl hb hb2 hne
  · cases h1
theorem SKnown.append {a b : List SRow} (ha : SKnown P f a) (hb : SKnown P f b) : SKnown P f (a ++ b) := fun r hr => by
  rcases List.mem_append.1 hr with h | h
  · exact ha r h
  · exact hb r h
theorem SKnown.nil : SKnown P f [] := fun r hr => by cases hr
noncomputable def pressG (l : List SRow) (args : List Value) (A : AW) : Option (Value × AW) :=
  match args with
  | [.pointer (some ⟨b, 0, none⟩), .slice (some ⟨b2, o, none⟩) len cap] =>
    bif Nat.beq b b2 then none else
    List.rec (motive := fun _ => Option (Value × AW)) none (fun r _ ih => Bool.rec (motive := fun _ => Option (Value × AW)) ih (some (.tuple ⟨[]⟩, A.set b (.cells r.c1 r.e)))
      (Nat.beq o r.o && Nat.beq len r.len && Nat.beq cap r.cap && isCells (A.get b) r.c r.e && isCells (A.get b2) r.d r.e')) l
  | _ => none
theorem pressG_ok {l : List SRow} (hk : SKnown P f l) : ∀ args A v A', pressG l args A = some (v, A') → CallAt P f args A v A' := fun args A v A' h => by
  unfold pressG at h
  split at h
  · rename_i b b2 o len cap
    cases hbb : Nat.beq b b2 with
    | true => rw [hbb] at h; cases h
    | false =>
      have hne : b ≠ b2 := fun e => by subst e; rw [Nat.beq_refl] at hbb; cases hbb
      rw [hbb] at h
      simp only [cond_false] at h
      clear hbb
      induction l with
      | nil => cases h
      | cons r l ih =>
        change Bool.rec (motive := fun _ => Option (Value × AW)) _ (some (.tuple ⟨[]⟩, A.set b (.cells r.c1 r.e))) (Nat.beq o r.o && Nat.beq len r.len && Nat.beq cap r.cap && isCells (A.get b) r.c r.e && isCells (A.get b2) r.d r.e') = some (v, A') at h
        cases hc : (Nat.beq o r.o && Nat.beq len r.len && Nat.beq cap r.cap && isCells (A.get b) r.c r.e && isCells (A.get b2) r.d r.e') with
        | false =>
          rw [hc] at h
          exact ih (fun r' hr => hk r' (List.mem_cons_of_mem _ hr)) h
        | true =>
          rw [hc] at h
          simp only [Option.some.injEq, Prod.mk.injEq] at h
          obtain ⟨rfl, rfl⟩ := h
          obtain ⟨hc, h5⟩ := and_true hc
          obtain ⟨hc, h4⟩ := and_true hc
          obtain ⟨hc, h3⟩ := and_true hc
          obtain ⟨h1, h2⟩ := and_true hc
          have h1 := beq_true h1
          have h2 := beq_true h2
          have h3 := beq_true h3
          subst h1
          subst h2
          subst h3
          exact hk r List.mem_cons_self A b b2 (isCells_some h4) (isCells_some h5) hne
  · cases h
end
end Ev
end Go
namespace Go
namespace Ev
section
open Go.ChangeShapes Go.WideShapes Go.ChangeAt Go.RowKit
variable {P : Program} {f : FuncId} {A1 : AW}

/-- All that lay there lies there as it was. -/
structure Same (w w' : World) : Prop where
  os : w'.os = w.os
  out : w'.output = w.output
  size : w.heap.size ≤ w'.heap.size
  heap : ∀ r, r < w.heap.size → w'.heap[r]? = w.heap[r]?
theorem Same.kept {w w' : World} (h : Same w w') (may : MemPlace → Prop) : w.keptBut w' may := by
  refine ⟨h.os, h.out, fun i hi => ?_⟩
  rw [h.heap i hi]
  cases w.heap[i]? with
  | none => rfl
  | some o =>
    cases o <;> first | exact ⟨rfl, rfl, rfl, fun _ _ => rfl⟩ | exact .inr ⟨rfl, rfl⟩ | rfl
theorem Same.frozen {w w' : World} (h : Same w w') (a : Addr) (ha : a.block < w.heap.size) : w'.frozen? a = w.frozen? a := by
  unfold World.frozen?
  rw [h.heap _ ha]

/-- A law that is known to answer yes in the empty world answers yes. -/
theorem law_calls (h : CallAt P f [] ⟨.e, 0⟩ (.bool true) A1) (w : World) : Calls P f #[] w fun e w' => e = .returned (.bool true) ∧ Same w w' := by
  refine (callsIn_wide (n := 0)).1 (h (fun _ => none) #[] w (hr_emp w) .nil _ fun m' v' w' h1 h2 h3 => ?_)
  have hno : ∀ r, ¬ Owned ⟨.e, 0⟩ (fun _ => none) r := fun r ⟨i, o, l, hi, _⟩ => by rw [emp_get] at hi; cases hi
  have := VR.plain h3 rfl
  subst this
  exact ⟨rfl, h2.os, h2.out, h2.size, fun r hr => (h2.frame r hr (hno r)).1⟩

/-- What stands behind a call that leaves all that lay there. -/
theorem post_of_kept {H : Type} {enc : TypeId × Value → H} {f : Func} {s : ChangeSpec} {apart fresh handsOn again : Bool} {W W' : World} {args : Array Value} {v : Value} {ds gs : List (DataW H)} {before pa pv : List MemPlace}
    (hW : DataW.Whole enc P f.params.toList s.vars apart W args.toList ds gs before)
    (hres : ∀ (b : Nat) (sp : Nat → Bool) (hd : Bool), DataW.TrodAll enc P W' b sp hd f.resultTypes.toList (v.resultList f.resultTypes.size) (s.fn H (ds ++ gs)).results [])
    (hargs : ∀ sp : Nat → Bool, (∀ p ∈ before, sp p.block = true) → DataW.TrodAll enc P W' 0 sp true f.params.toList args.toList (s.fn H (ds ++ gs)).args pa)
    (hvars : ∀ sp : Nat → Bool, (∀ p ∈ before, sp p.block = true) → DataW.TrodVars enc P W' sp s.vars (s.fn H (ds ++ gs)).vars pv)
    (hps : before = pa ++ pv) (hk : Same W W')
    (hok : ∀ (j : Nat) (t : TypeId) (r : Value), f.resultTypes[j]? = some t → (v.resultList f.resultTypes.size)[j]? = some r → Value.okWide P W' .any 0 t r) :
    s.post enc P f apart fresh handsOn again W args v W' := by
  have hlt := hW.lt
  have hold : ∀ p ∈ before, (fun b => decide (b < W.heap.size)) p.block = true := fun p hp => by simpa using hlt p hp
  refine ⟨ds, gs, before, [], pa, pv, hW, hres _ _ _, hargs _ hold, hvars _ hold, World.keptBut_mono (fun p hp => ⟨hp, ?_⟩) (hk.kept (· ∈ before)), fun _ => ?_⟩
  · rw [hps, List.mem_append] at hp
    exact Or.inr hp
  · obtain ⟨_, _, _, _, _, hz, hn⟩ := hW
    refine ⟨hok, _, _, ([] ++ pa) ++ pv, ⟨[] ++ pa, pv, trodAll_append (hargs _ (fun _ _ => rfl)) (hres _ _ _), hvars _ (fun _ _ => rfl), rfl, ?_, ?_⟩, ?_⟩
    · intro b off hp
      have hb : MemPlace.cell b off ∈ before := by rw [hps]; simpa using hp
      rw [hk.frozen _ (hlt _ hb)]
      exact hz b off hb
    · intro ha
      have := hn ha
      rw [hps] at this
      simpa using this
    · intro p hp _
      rw [hps]
      simpa using hp
end
end Ev
end Go
