/-
  Calls, rounds, regions in order and regions that draw their order: the evaluator is sound.
-/
import Derived.Test.YtcddgghhikfimaaGreatEvB
import Derived.RangeFuncLeaves
import Derived.LoopNIn
import Derived.Scope
namespace Go
namespace Ev
section
variable {P : Program} {m : Mp} {A A' : AW} {w w' : World} {fr : AFr} {a : Act}

noncomputable def ExtK.sem : ExtK → Array Value → Sem Value
  | .clone => Extern.MapsClone.clone
  | .add64 => fun args => do
    let (x, y, c) ← Extern.MathBitsCarry.three "Add64" args
    pure (Extern.MathBitsCarry.pair ((x + y + c) % Extern.MathBitsCarry.m64) ((x + y + c) / Extern.MathBitsCarry.m64))

/-- What an extern does. -/
theorem evExt_ok {k : ExtK} {args : List Value} {args' : Array Value} {v : Value} (hH : HR P m A w) (ha : VRs m args args'.toList) (h : evExt k args A = some (v, A')) :
    ∃ m' v' w', (k.sem args').run P w = .ok v' w' ∧ HR P m' A' w' ∧ Ext A m w A' m' w' ∧ VR m' v v' := by
  obtain ⟨l'⟩ := args'
  simp only at ha
  cases k with
  | clone =>
    simp only [evExt] at h
    split at h
    · rename_i t r
      split at h
      · rename_i es clock hg
        split at h
        · rename_i id A1 hn
          simp only [Option.some.injEq, Prod.mk.injEq] at h
          obtain ⟨rfl, rfl⟩ := h
          cases ha with
          | cons hv hl =>
            cases hl
            cases hv with
            | iface _ hv =>
              cases hv with
              | map hm =>
                rename_i loc
                obtain ⟨h0, es', hb, hes⟩ := hH.obj _ _ _ hg hm
                have hrun : (ExtK.sem .clone #[.iface t (.map (some loc.blk))]).run P w = .ok (.iface t (.map (some w.heap.size))) { w with heap := w.heap.push (.map es' clock) } := by
                  have he : ExtK.sem .clone #[.iface t (.map (some loc.blk))] = (do
                      let .map entries clock ← getObj loc.blk | stuck "maps.clone: a map expected"
                      pure (.iface t (.map (some (← newObj (.map entries clock)))))) := rfl
                  rw [he]
                  simp only [Sem.run_bind, Ev.run_getObj hb (by simp), Result.andThen_ok, run_newObj, Sem.run_pure]
                obtain ⟨m', h1, h2, h3⟩ := hr_new (vf := fun id => .iface t (.map (some id))) (v' := .iface t (.map (some w.heap.size))) hH hn
                  (w' := { w with heap := w.heap.push (.map es' clock) })
                  ⟨rfl, rfl, rfl, ⟨_, rfl⟩, ⟨w.heap.size, 0, 0, 0⟩, rfl, fun id m' hle hid => ⟨⟨rfl, es', by simp, hes.mono hle⟩, .iface _ (.map hid)⟩⟩
                exact ⟨m', _, _, hrun, h1, h2, h3⟩
        · cases h
      · cases h
    · cases h
  | add64 =>
    simp only [evExt] at h
    split at h
    · rename_i x y c
      obtain ⟨hc, h⟩ := bif_some' h
      have hc := ble_true hc
      simp only [Option.some.injEq, Prod.mk.injEq] at h
      obtain ⟨rfl, rfl⟩ := h
      cases ha with
      | cons hx hl =>
        cases hl with
        | cons hy hl =>
          cases hl with
          | cons hz hl =>
            cases hl
            cases hx
            cases hy
            cases hz
            refine ⟨m, _, w, ?_, hH, Ext.refl _ _ _, .tuple (.cons (.int _ _) (.cons (.int _ _) .nil))⟩
            have hc2 : c = 0 ∨ c = 1 := by omega
            rcases hc2 with rfl | rfl <;> rfl
    · cases h

/-- An extern of the program's that is known. -/
def ExtIs (P : Program) (f : FuncId) (k : ExtK) : Prop :=
  ∃ fn, P.funcs[f]? = some fn ∧ (fn.name == "runtime.NumGoroutine") = false ∧ fn.body.isNone = true ∧ Extern.findNext fn = none ∧ Extern.find fn = some k.sem
def ExtsOK (P : Program) (E : Env) : Prop := ∀ f k, E.ext f = some k → ExtIs P f k

theorem run_mark (x : Mark) : (mark x).run P w = .ok () w := rfl
end
end Ev
end Go
namespace Go
namespace Ev
section
variable {P : Program} {m : Mp} {A A' : AW} {w w' : World} {fr : AFr} {a : Act}

def fence (r : Option Nat) : Fence := { Fence.wide with round := r }
theorem fence_none : fence none = Fence.wide := rfl
theorem fence_in (r : Option Nat) (l : Nat) : (fence r).inRound l = fence (some l) := rfl

/-- The round that code is in. -/
def RoundR (m : Mp) (ro r : Option Nat) : Prop := (ro = none ∧ r = none) ∨ ∃ l loc, ro = some l ∧ m l = some loc ∧ r = some loc.blk
theorem RoundR.mono {m m' : Mp} (h : m.le m') {ro r : Option Nat} (hr : RoundR m ro r) : RoundR m' ro r :=
  hr.imp id fun ⟨l, loc, h1, h2, h3⟩ => ⟨l, loc, h1, h _ _ h2, h3⟩

inductive DefR (m : Mp) : List Nat → List Deferred → Prop
  | nil : DefR m [] []
  | cons {d : Nat} {l : Loc} {ds : List Nat} {xs : List Deferred} (h : m d = some l) (hl : DefR m ds xs) : DefR m (d :: ds) ({ target := .collected l.blk, args := #[] } :: xs)
theorem DefR.mono {m m' : Mp} (h : m.le m') : ∀ {ds : List Nat} {xs : List Deferred}, DefR m ds xs → DefR m' ds xs
  | _, _, .nil => .nil
  | _, _, .cons hd hl => .cons (h _ _ hd) (DefR.mono h hl)

def toExit : AExit → Exit
  | .normal => .normal
  | .exit id => .exit id
  | .ret => .ret

def WP (F : Fence) (P : Program) (n : Nat) (c : Code) (Q : Exit → Act → World → Prop) (a : Act) (w : World) : Prop :=
  match c with
  | .loop b => Code.roundsIn F 0 P b Q n a w
  | c => c.wpIn F 0 P Q a w
theorem WP.wpIn {F : Fence} {n : Nat} {c : Code} {Q : Exit → Act → World → Prop} (h : WP F P n c Q a w) : c.wpIn F 0 P Q a w := by
  cases c <;> first | exact h | exact wpIn_loop_rounds n h

/-- What code does, so far as it is known. -/
def CodeOK (P : Program) (n : Nat) (ih : Fns) : Prop :=
  ∀ ro c fr A e fr' A', ih.code ro c fr A = some (e, fr', A') → ∀ m r a w, RoundR m ro r → HR P m A w → FR m fr a → DefR m fr.defers a.defers →
    ∀ Q : Exit → Act → World → Prop, (∀ m' a' w', HR P m' A' w' → Ext A m w A' m' w' → FR m' fr' a' → DefR m' fr'.defers a'.defers → Q (toExit e) a' w') → WP (fence r) P n c Q a w

/-- What a call does. -/
def CallAt (P : Program) (f : FuncId) (args : List Value) (A : AW) (v : Value) (A' : AW) : Prop :=
  ∀ m args' w, HR P m A w → VRs m args args'.toList → ∀ R : Ending → World → Prop, (∀ m' v' w', HR P m' A' w' → Ext A m w A' m' w' → VR m' v v' → R (.returned v') w') → CallsIn Fence.wide 0 P f args' w R
def CallOK (P : Program) (ih : Fns) : Prop := ∀ f args A v A', ih.call f args A = some (v, A') → CallAt P f args A v A'
def OvOK (P : Program) (E : Env) : Prop := ∀ f args A v A', E.ov f args A = some (some (v, A')) → CallAt P f args A v A'

theorem callsIn_fence {r : Option Nat} {f : FuncId} {args : Array Value} {R : Ending → World → Prop} (h : CallsIn Fence.wide 0 P f args w R) : CallsIn (fence r) 0 P f args w R := h

theorem hr_world (h : HR P m A w) (hw : w'.heap = w.heap) : HR P m A w' := ⟨h.top, h.live, h.dom, h.inj, fun i o l hi hm => (h.obj i o l hi hm).mono (Mp.le_refl m) (by rw [hw])⟩

/-- A block is let go, and turned. -/
theorem hr_drop {b : Nat} {o0 : AObj} {l : Loc} (h : HR P m A w) (hg : A.get b = some o0) (hm : m b = some l) (hw : ButAt w w' l.blk) :
    HR P m (A.kill b) w' ∧ Ext A m w (A.kill b) m w' := by
  have hb := Nat.lt_of_lt_of_le (h.live b o0 hg) h.top
  have hget := fun i => get_kill (A := A) i hb
  have back : ∀ {i o}, (A.kill b).get i = some o → A.get i = some o ∧ i ≠ b := fun {i o} hi => by
    rw [hget] at hi
    split at hi
    · cases hi
    · rename_i e; exact ⟨hi, e⟩
  refine ⟨⟨h.top, fun i o hi => h.live i o (back hi).1, h.dom, fun i j oi oj li lj hi hj => h.inj i j oi oj li lj (back hi).1 (back hj).1, fun i o li hi hmi => ?_⟩,
    ⟨Mp.le_refl m, Nat.le_refl _, fun i l h1 h2 => (by rw [h1] at h2; cases h2), by rw [hw.size]; exact Nat.le_refl _, ?_, hw.tape, hw.os, hw.out⟩⟩
  · obtain ⟨h1, h2⟩ := back hi
    have hne : li.blk ≠ l.blk := fun hh => h2 (h.inj i b o o0 li l h1 hg hmi hm hh)
    exact (h.obj i o li h1 hmi).mono (Mp.le_refl m) (hw.heap _ hne)
  · intro r _ hno
    have hrl : r ≠ l.blk := fun e => hno ⟨b, o0, l, hg, hm, e.symm⟩
    refine ⟨hw.heap r hrl, ?_⟩
    rintro ⟨i, o, li, hi, hmi, hbl⟩
    exact hno ⟨i, o, li, (back hi).1, hmi, hbl⟩

/-- The arguments of yield, laid into the temporaries. -/
theorem zipTmps_ok : ∀ {ts : List Tmp} {vs vs' : List Value} {fr fr' : AFr} {a : Act}, FR m fr a → VRs m vs vs' → zipTmps ts vs fr = some fr' →
    vs'.length = ts.length ∧ fr'.defers = fr.defers ∧ FR m fr' { a with tmps := (ts.zip vs').foldl (fun tmps (t, x) => tmps.setIfInBounds t x) a.tmps }
  | [], _, _, fr, fr', a, hF, hv, h => by
    cases hv with
    | nil =>
      simp only [zipTmps, Option.some.injEq] at h
      subst h
      exact ⟨rfl, rfl, hF⟩
    | cons hx hl => simp [zipTmps] at h
  | t :: ts, _, _, fr, fr', a, hF, hv, h => by
    cases hv with
    | nil => simp [zipTmps] at h
    | @cons v v' l l' hx hl =>
      simp only [zipTmps] at h
      split at h
      · rename_i fr1 h1
        obtain ⟨hF1, hd1⟩ := hF.put hx h1
        obtain ⟨h2, h3, h4⟩ := zipTmps_ok hF1 hl h
        exact ⟨by simp [h2], h3.trans hd1, h4⟩
      · cases h

/-- The arguments of a call, laid into the temporaries. -/
theorem layTmps_get : ∀ (l : List Value) (i : Nat) (t : T4 Value), i + l.length ≤ top4 → ∀ j, (layTmps l i t).get j = if i ≤ j ∧ j < i + l.length then l[j - i]? else t.get j
  | [], i, t, _, j => by
    simp only [layTmps]
    rw [if_neg]
    simp only [List.length_nil]
    omega
  | v :: l, i, t, h, j => by
    simp only [List.length_cons] at h
    rw [layTmps, layTmps_get l (Nat.succ i) _ (by omega) j, get_put4 (some v) i j t (by omega)]
    simp only [List.length_cons]
    by_cases h1 : j = i
    · subst h1
      rw [if_neg (by omega), if_pos rfl, if_pos (by omega)]
      simp
    · rw [if_neg h1]
      by_cases h2 : i < j ∧ j < i + (l.length + 1)
      · rw [if_pos (by omega), if_pos (by omega), show j - i = (j - Nat.succ i) + 1 by omega]
        simp
      · rw [if_neg (by omega), if_neg (by omega)]

theorem enter_fr {args : List Value} {args' : Array Value} {k n : Nat} (hv : VRs m args args'.toList) (hn : n = bif Nat.ble k args.length then args.length else k) (ht : n ≤ top4) :
    FR m ⟨layTmps args 0 .e, n, []⟩ { tmps := args' ++ Array.replicate (k - args'.size) undef, defers := [] } := by
  have hlen : args'.size = args.length := by have := hv.length; simpa using this
  have hn' : n = args.length + (k - args.length) := by
    cases hb : Nat.ble k args.length with
    | true => have := ble_true hb; rw [hb] at hn; simp at hn; omega
    | false =>
      have : ¬ k ≤ args.length := fun h => by rw [Nat.ble_eq_true_of_le h] at hb; cases hb
      rw [hb] at hn; simp at hn; omega
  refine ⟨by simp [hlen]; omega, ht, fun i => ?_⟩
  rw [layTmps_get args 0 .e (by omega) i]
  by_cases hi : i < args.length
  · rw [if_pos ⟨Nat.zero_le _, by omega⟩]
    obtain ⟨v', h1, h2⟩ := hv.get i (List.getElem?_eq_getElem hi)
    have hi' : i < args'.size := by omega
    rw [Nat.sub_zero, List.getElem?_eq_getElem hi]
    have e : (args' ++ Array.replicate (k - args'.size) undef).getD i undef = v' := by
      simp only [Array.getElem?_toList] at h1
      simp [Array.getD_eq_getD_getElem?, Array.getElem?_append_left hi', h1]
    rw [e]
    exact h2
  · rw [if_neg (by omega)]
    have e : (args' ++ Array.replicate (k - args'.size) undef).getD i undef = undef := by
      rw [Array.getD_eq_getD_getElem?, Array.getElem?_append_right (by omega)]
      by_cases hj : i - args'.size < k - args'.size
      · simp [hj]
      · rw [Array.getElem?_eq_none (by simpa using hj)]
        rfl
    rw [e]
    exact vr_undef m

noncomputable def resOne (tmps : Array Value) : ResultVar → Sem Value
  | .tmp t => pure (tmps.getD t undef)
  | .cell x t => do loadVar t (← asAddr (tmps.getD x undef))

/-- What a function hands back. -/
theorem resultsOf_ok (hO : Objs P m A w) (hF : FR m fr a) : ∀ {l : List ResultVar} {vs : List Value}, resultsOf P fr A l = some vs →
    ∃ vs', (l.mapM (resOne a.tmps)).run P w = .ok vs' w ∧ VRs m vs vs'
  | [], vs, h => by
    simp only [resultsOf, Option.some.injEq] at h
    subst h
    exact ⟨[], rfl, .nil⟩
  | .tmp t :: l, vs, h => by
    simp only [resultsOf] at h
    split at h
    · rename_i r hr
      simp only [Option.some.injEq] at h
      subst h
      obtain ⟨vs', h1, h2⟩ := resultsOf_ok hO hF hr
      refine ⟨a.tmps.getD t undef :: vs', ?_, .cons (hF.tmps t) h2⟩
      simp only [List.mapM_cons, resOne, Sem.run_bind, Sem.run_pure, Result.andThen_ok, h1]
    · cases h
  | .cell x t :: l, vs, h => by
    simp only [resultsOf] at h
    split at h
    · rename_i b o vi hx hvi
      split at h
      · rename_i v r hl hr
        simp only [Option.some.injEq] at h
        subst h
        obtain ⟨vs', h1, h2⟩ := resultsOf_ok hO hF hr
        have hp := hF.tmps x
        change VR m (fr.tmp x) _ at hp
        rw [hx] at hp
        generalize hy : a.tmps.getD x undef = y at hp
        cases hp with
        | ptr hm =>
          obtain ⟨v', h3, h4⟩ := loadVar_ok hO hvi hm hl
          refine ⟨v' :: vs', ?_, .cons h4 h2⟩
          simp only [List.mapM_cons, resOne, Sem.run_bind, Sem.run_pure, Result.andThen_ok, hy, asAddr, h3, h1]
      · cases h
    · cases h

theorem results_eq (fn : Func) (tmps : Array Value) : results fn tmps = (do
    let vs ← fn.results.mapM (resOne tmps)
    pure (if h : vs.size = 1 then vs[0] else .tuple vs)) := by
  unfold results
  congr 1

theorem results_ok {fn : Func} {vs : List Value} (hO : Objs P m A w) (hF : FR m fr a) (h : resultsOf P fr A fn.results.toList = some vs) :
    ∃ v', (results fn a.tmps).run P w = .ok v' w ∧ VR m (oneOrTuple vs) v' := by
  obtain ⟨vs', h1, h2⟩ := resultsOf_ok hO hF h
  have h3 : (fn.results.mapM (resOne a.tmps)).run P w = .ok ⟨vs'⟩ w := by
    rw [Array.mapM_eq_mapM_toList, Sem.run_map, h1]
    rfl
  rw [results_eq, Sem.run_bind, h3]
  simp only [Result.andThen_ok, Sem.run_pure]
  cases h2 with
  | nil => exact ⟨_, rfl, .tuple .nil⟩
  | cons hv hl =>
    cases hl with
    | nil => exact ⟨_, rfl, hv⟩
    | cons hv2 hl =>
      refine ⟨_, rfl, ?_⟩
      simp only [List.size_toArray, List.length_cons]
      rw [dif_neg (by omega)]
      exact .tuple (.cons hv (.cons hv2 hl))

theorem run_takeDeferred {r : Nat} (h : w.heap[r]? = some (.deferred (some []))) : (Instr.takeDeferred r).run P w = .ok [] (putObj w r (.deferred none)) := by
  simp only [Instr.takeDeferred, Sem.run_bind, Ev.run_getObj h (by simp), Result.andThen_ok, run_setObj' h (by simp), Sem.run_pure]

/-- A function's end: the marks, then what it hands back. -/
theorem leaves_ok {F : Fence} {fn : Func} {R : Ending → World → Prop} : ∀ {ds : List Nat} {xs : List Deferred} {A A1 : AW} {w : World}, DefR m ds xs → takeMarks ds A = some A1 → HR P m A w →
    (∀ w', HR P m A1 w' → Ext A m w A1 m w' → ∃ v, (results fn a.tmps).run P w' = .ok v w' ∧ R (.returned v) w') → LeavesInM F 0 P fn a.tmps R xs .returning w
  | _, _, A, A1, w, .nil, h, hH, hR => by
    simp only [takeMarks, Option.some.injEq] at h
    subst h
    obtain ⟨v, h1, h2⟩ := hR w hH (Ext.refl _ _ _)
    exact ⟨v, h1, h2⟩
  | _, _, A, A1, w, .cons hd hl, h, hH, hR => by
    simp only [takeMarks] at h
    split at h
    · rename_i hg
      obtain ⟨h0, hb⟩ := hH.obj _ _ _ hg hd
      obtain ⟨h1, h2⟩ := hr_drop hH hg hd (butAt_putObj w _ (.deferred none))
      refine ⟨by simp, .inl ⟨_, _, rfl, run_takeDeferred hb, leaves_ok hl h h1 fun w' h3 h4 => hR w' h3 (h2.trans h4)⟩⟩
    · cases h
end
end Ev
end Go
namespace Go
namespace Ev
section
variable {P : Program} {E : Env} {n : Nat} {ih : Fns} {m : Mp} {A A' : AW} {w w' : World} {fr : AFr} {a : Act}

theorem run_getLoop {l : Nat} {r : Loop} (h : w.heap[l]? = some (.loop r)) : (Instr.getLoop l).run P w = .ok r w := by
  simp only [Instr.getLoop, Sem.run_bind, Ev.run_getObj h (by simp), Result.andThen_ok, Sem.run_pure]

theorem run_endRound {l : Nat} {r : Loop} (h : w.heap[l]? = some (.loop r)) (j : Option Code) :
    (Instr.endRound l j).run P w = .ok (.bool j.isNone) (putObj w l (.loop { r with state := if j.isNone then .ready else .done, pending := j })) := by
  simp only [Instr.endRound, Sem.run_bind, run_getLoop h, Result.andThen_ok, run_setObj' h (by simp), Sem.run_pure]

theorem run_beginRound {l : Nat} {r : Loop} (h : w.heap[l]? = some (.loop r)) (hs : r.state = .ready) :
    (Instr.beginRound l).run P w = .ok () (putObj w l (.loop { r with state := .busy })) := by
  simp only [Instr.beginRound, Sem.run_bind, run_getLoop h, Result.andThen_ok, run_setObj' h (by simp), hs, Sem.run_pure]

theorem run_endLoop {l : Nat} {r : Loop} (h : w.heap[l]? = some (.loop r)) (hs : (r.state == .busy) = false) :
    (Instr.endLoop l).run P w = .ok r.pending (putObj w l (.loop { r with state := .exhausted })) := by
  simp only [Instr.endLoop, Sem.run_bind, run_getLoop h, Result.andThen_ok, hs, Bool.false_eq_true, if_false, run_setObj' h (by simp), Sem.run_pure]

/-- A loop's record turned. -/
theorem hr_loop {l : Nat} {loc : Loc} {st st' : LoopState} {pd pd' : Option Code} {tm : T4 Value} {k : Nat} {ps : Array Tmp} {as bo : Code} {df : Nat}
    (hH : HR P m A w) (hg : A.get l = some (.loop st pd tm k ps as bo df)) (hm : m l = some loc) :
    ∃ r : Loop, w.heap[loc.blk]? = some (.loop r) ∧ r.state = st ∧ r.pending = pd ∧ r.params = ps ∧ r.assign = as ∧ r.body = bo ∧ (∃ ld, m df = some ld ∧ r.defers = ld.blk) ∧ r.tmps.size = k ∧ k ≤ top4 ∧ TR m tm r.tmps ∧
      HR P m (A.set l (.loop st' pd' tm k ps as bo df)) (putObj w loc.blk (.loop { r with state := st', pending := pd' })) ∧
      Ext A m w (A.set l (.loop st' pd' tm k ps as bo df)) m (putObj w loc.blk (.loop { r with state := st', pending := pd' })) := by
  obtain ⟨h0, fn, ar, ld, hb, hsz, htop, htr, hd⟩ := hH.obj _ _ _ hg hm
  refine ⟨_, hb, rfl, rfl, rfl, rfl, rfl, ⟨ld, hd, rfl⟩, hsz, htop, htr, ?_⟩
  exact hr_set hH hg hm (butAt_putObj w _ _) ⟨h0, fn, ar, ld, putObj_at hb, hsz, htop, htr, hd⟩

/-- **ONE ROUND.** -/
theorem evRound_ok (hC : CodeOK P n ih) {r : Option Nat} {l : Nat} {loc : Loc} {args args' : List Value} {v : Value} (hH : HR P m A w) (hm : m l = some loc) (hv : VRs m args args')
    (h : evRound ih l args A = some (v, A')) (o : Oper) (next : Act → World → Prop) (Q : Exit → Act → World → Prop)
    (hn : ∀ m' v' w', HR P m' A' w' → Ext A m w A' m' w' → VR m' v v' → next (a.put o.dst v') w') :
    o.uponIn (fence r) 0 P a next Q ((Instr.yield loc.blk ⟨args'⟩).run P w) := by
  unfold evRound at h
  split at h
  · rename_i st0 pd0 tmps k params assign body df0 hg
    split at h
    · cases h
    · rename_i fr1 hz
      obtain ⟨h0, fn, ar, ld, hb, hsz, htop, htr, hd⟩ := hH.obj _ _ _ hg hm
      have hF0 : FR m ⟨tmps, k, []⟩ { tmps := ar, defers := [] } := ⟨hsz, htop, htr⟩
      obtain ⟨hlen, hdf, hF1⟩ := zipTmps_ok hF0 hv hz
      have hfold : (params.zip ⟨args'⟩).foldl (fun tmps (t, x) => tmps.setIfInBounds t x) ar = (params.toList.zip args').foldl (fun tmps (t, x) => tmps.setIfInBounds t x) ar := by
        rw [← Array.foldl_toList, Array.toList_zip]
      have hrun : (Instr.yield loc.blk ⟨args'⟩).run P w = .ok (.round loc.blk fn ((params.toList.zip args').foldl (fun tmps (t, x) => tmps.setIfInBounds t x) ar) assign body) w := by
        have hl2 : ¬ (⟨args'⟩ : Array Value).size ≠ params.size := by simpa using hlen
        simp only [Instr.yield, Sem.run_bind, run_getLoop hb, Result.andThen_ok, if_neg hl2, Sem.run_pure, hfold]
      rw [hrun, Oper.uponIn_round]
      refine ⟨fun hh => by simp [fence, Fence.wide] at hh, roundIn_of_wpIn trivial ?_⟩
      rw [fence_in]
      split at h
      · rename_i fr2 A1 hc1
        have hF1' : FR m fr1 { tmps := (params.toList.zip args').foldl (fun tmps (t, x) => tmps.setIfInBounds t x) ar, defers := [] } := hF1
        have hD1 : DefR m fr1.defers [] := by rw [hdf]; exact .nil
        refine (hC (some l) assign fr1 A .normal fr2 A1 hc1 m (some loc.blk) { tmps := (params.toList.zip args').foldl (fun tmps (t, x) => tmps.setIfInBounds t x) ar, defers := [] } w (.inr ⟨l, loc, rfl, hm, rfl⟩) hH hF1' hD1 _ ?_).wpIn
        intro m1 a1 w1 hH1 hE1 hF2 hD2
        change ∃ w₂, _ ∧ _
        split at h
        · rename_i pend tm k' ps as bo df hg1
          have hm1 := hE1.le _ _ hm
          obtain ⟨rl, hb1, hs, hpd, _, _, _, _, _, _, _, hH2, hE2⟩ := hr_loop (st' := .busy) (pd' := pend) hH1 hg1 hm1
          have hrl : ({ rl with state := .busy, pending := pend } : Loop) = { rl with state := .busy } := by rw [← hpd]
          rw [hrl] at hH2 hE2
          refine ⟨_, run_beginRound hb1 hs, ?_⟩
          split at h
          · rename_i e fr3 A2 hc2
            refine (hC (some l) body fr2 _ e fr3 A2 hc2 m1 (some loc.blk) a1 _ (.inr ⟨l, loc, rfl, hm1, rfl⟩) hH2 hF2 hD2 _ ?_).wpIn
            intro m2 a2 w2 hH3 hE3 _ _
            split at h
            · rename_i st2 pd2 tm2 k2 ps2 as2 bo2 df2 hg2
              have hm2 := hE3.le _ _ hm1
              have hE13 := hE1.trans (hE2.trans hE3)
              cases e with
              | normal =>
                simp only [Option.some.injEq, Prod.mk.injEq] at h
                obtain ⟨rfl, rfl⟩ := h
                obtain ⟨r2, hb2, _, _, _, _, _, _, _, _, _, hH4, hE4⟩ := hr_loop (st' := .ready) (pd' := none) hH3 hg2 hm2
                exact ⟨_, _, run_endRound hb2 none, hn m2 _ _ hH4 (hE13.trans hE4) (.bool _)⟩
              | ret =>
                simp only [Option.some.injEq, Prod.mk.injEq] at h
                obtain ⟨rfl, rfl⟩ := h
                obtain ⟨r2, hb2, _, _, _, _, _, _, _, _, _, hH4, hE4⟩ := hr_loop (st' := .done) (pd' := some .ret) hH3 hg2 hm2
                exact ⟨_, _, run_endRound hb2 (some .ret), hn m2 _ _ hH4 (hE13.trans hE4) (.bool _)⟩
              | exit id =>
                simp only [Option.some.injEq, Prod.mk.injEq] at h
                obtain ⟨rfl, rfl⟩ := h
                obtain ⟨r2, hb2, _, _, _, _, _, _, _, _, _, hH4, hE4⟩ := hr_loop (st' := .done) (pd' := some (.exit id)) hH3 hg2 hm2
                exact ⟨_, _, run_endRound hb2 (some (.exit id)), hn m2 _ _ hH4 (hE13.trans hE4) (.bool _)⟩
            · cases h
          · cases h
        · cases h
      · cases h
  · cases h

theorem fnInfo_body {f : FuncId} {c : Code} {k : Nat} {rs : List ResultVar} (h : fnInfo P f = some (.body c k rs)) :
    ∃ fn, P.funcs[f]? = some fn ∧ (fn.name == "runtime.NumGoroutine") = false ∧ fn.body = some c ∧ fn.ntmps = k ∧ fn.results.toList = rs := by
  unfold fnInfo at h
  split at h
  · cases h
  · rename_i fn hf
    cases hn : (fn.name == "runtime.NumGoroutine") with
    | true => simp [hn] at h
    | false =>
      simp only [hn, cond_false] at h
      cases hb : fn.body with
      | none => simp [hb] at h
      | some c' =>
        simp only [hb, Option.some.injEq, FnKind.body.injEq] at h
        exact ⟨fn, hf, hn, by rw [hb, h.1], h.2.1, h.2.2⟩

theorem run_program' : (program).run P w = .ok P w := rfl

theorem run_callFunc_body {f : FuncId} {fn : Func} {args : Array Value} (hf : P.funcs[f]? = some fn) (hn : (fn.name == "runtime.NumGoroutine") = false) (hb : fn.body.isNone = false) :
    (callFunc f args).run P w = .ok (.enter f args) w := by
  simp only [callFunc, Sem.run_bind, run_program', Result.andThen_ok, hf, hn, Bool.false_eq_true, if_false, hb, Sem.run_pure]

theorem run_callFunc_ext {f : FuncId} {k : ExtK} {args : Array Value} {v' : Value} (hE : ExtIs P f k) (h : (k.sem args).run P w = .ok v' w') :
    (callFunc f args).run P w = .ok (.value v') w' := by
  obtain ⟨fn, hf, hn, hb, hx, hy⟩ := hE
  simp only [callFunc, Sem.run_bind, run_program', Result.andThen_ok, hf, hn, Bool.false_eq_true, if_false, hb, if_true, run_mark, hx, hy, h, Sem.run_pure]

theorem evFunc_ok (hK : CallOK P ih) (hX : ExtsOK P E) {r : Option Nat} {f : FuncId} {args args' : List Value} {v : Value} (hH : HR P m A w) (hv : VRs m args args')
    (h : evFunc P E ih f args A = some (v, A')) (o : Oper) (next : Act → World → Prop) (Q : Exit → Act → World → Prop)
    (hn : ∀ m' v' w', HR P m' A' w' → Ext A m w A' m' w' → VR m' v v' → next (a.put o.dst v') w') :
    o.uponIn (fence r) 0 P a next Q ((callFunc f ⟨args'⟩).run P w) := by
  unfold evFunc at h
  split at h
  · rename_i c k rs hi
    obtain ⟨fn, hf, hnm, hb, _, _⟩ := fnInfo_body hi
    rw [run_callFunc_body hf hnm (by rw [hb]; rfl), Oper.uponIn_enter]
    exact ⟨fun hh => by simp [fence, Fence.wide] at hh, callsIn_fence (hK f args A v A' h m ⟨args'⟩ w hH hv _ fun m' v' w' h1 h2 h3 => hn m' v' w' h1 h2 h3)⟩
  · split at h
    · rename_i k hk
      obtain ⟨m', v', w', h1, h2, h3, h4⟩ := evExt_ok (args' := ⟨args'⟩) hH hv h
      rw [run_callFunc_ext (hX f k hk) h1, Oper.uponIn_value]
      exact hn m' v' w' h2 h3 h4
    · cases h
  · cases h

/-- **A CALL OF A VALUE.** -/
theorem evFn_ok (hC : CodeOK P n ih) (hK : CallOK P ih) (hX : ExtsOK P E) {r : Option Nat} {fn : Fn} {first args args' cap : List Value} {f' : Value} {v : Value} (hH : HR P m A w)
    (hf : VR m (.func fn ⟨first⟩ ⟨cap⟩) f') (hv : VRs m args args')
    (h : evFn P E ih fn (first ++ args) cap A = some (v, A')) (o : Oper) (next : Act → World → Prop) (Q : Exit → Act → World → Prop)
    (hn : ∀ m' v' w', HR P m' A' w' → Ext A m w A' m' w' → VR m' v v' → next (a.put o.dst v') w') :
    o.uponIn (fence r) 0 P a next Q ((do let d ← Deferred.ofValue f' ⟨args'⟩; invoke d.target d.args : Sem Next).run P w) := by
  cases hf with
  | @func _ _ _ xs' ys' hny hx hy =>
    cases fn with
    | func g =>
      simp only [evFn] at h
      have h1 := evFunc_ok hK hX (r := r) hH ((hx.append hv).append hy) h o next Q hn
      have e : ((do let d ← Deferred.ofValue (.func (.func g) ⟨xs'⟩ ⟨ys'⟩) ⟨args'⟩; invoke d.target d.args : Sem Next).run P w) = (callFunc g ⟨xs' ++ args' ++ ys'⟩).run P w := by
        simp only [Deferred.ofValue, Sem.run_bind, Sem.run_pure, Result.andThen_ok, invoke]
        simp
      rw [e]
      exact h1
    | yield l => exact hny.elim
    | _ => simp [evFn] at h
  | @yield _ loc hm =>
    simp only [evFn, List.nil_append] at h
    have h1 := evRound_ok hC (r := r) hH hm hv h o next Q hn
    have e : ((do let d ← Deferred.ofValue (.func (.yield loc.blk) #[] #[]) ⟨args'⟩; invoke d.target d.args : Sem Next).run P w) = (Instr.yield loc.blk ⟨args'⟩).run P w := by
      simp only [Deferred.ofValue, Sem.run_bind, Sem.run_pure, Result.andThen_ok, invoke]
      simp
    rw [e]
    exact h1

theorem notDefer_of {o : Oper} {v : Value} (h : evR P fr A o.type o.op = some v) : ∀ c, o.op ≠ .defer c := by
  intro c e
  rw [e] at h
  simp [evR] at h

/-- **ANY OPERATION.** -/
theorem evOp_ok_at (hC : CodeOK P n ih) (hK : CallOK P ih) (hX : ExtsOK P E) {r : Option Nat} {o : Oper} {v : Value} (hH : HR P m A w) {b : Act} (hF : FR m fr b) (hab : execOp a.eval o = execOp b.eval o)
    (h : evOp P E ih fr A o = some (v, A')) (next : Act → World → Prop) (Q : Exit → Act → World → Prop)
    (hn : ∀ m' v' w', HR P m' A' w' → Ext A m w A' m' w' → VR m' v v' → next (a.put o.dst v') w') : o.wpIn (fence r) 0 P a w next Q := by
  refine ⟨fun _ _ => trivial, ?_⟩
  unfold evOp at h
  have reads : ∀ v, evR P fr A o.type o.op = some v → (∀ m' v' w', HR P m' A w' → Ext A m w A m' w' → VR m' v v' → next (a.put o.dst v') w') → o.uponIn (fence r) 0 P a next Q ((o.semAt (fence r).round a.eval).run P w) := by
    intro v hv hn
    rw [Oper.semAt_eq _ _ _ (notDefer_of hv), hab]
    obtain ⟨v', h1, h2⟩ := evR_ok hH.objs hF hv
    rw [h1, Oper.uponIn_value]
    exact hn m v' w hH (Ext.refl _ _ _) h2
  split at h
  · split at h
    · rename_i v0 hv
      simp only [Option.some.injEq, Prod.mk.injEq] at h
      obtain ⟨rfl, rfl⟩ := h
      exact reads _ hv hn
    · cases h
  · split at h
    · rename_i v0 hv
      simp only [Option.some.injEq, Prod.mk.injEq] at h
      obtain ⟨rfl, rfl⟩ := h
      exact reads _ hv hn
    · cases h
  · split at h
    · rename_i ob vf hv
      split at h
      · rename_i id A1 hnew
        simp only [Option.some.injEq, Prod.mk.injEq] at h
        obtain ⟨rfl, rfl⟩ := h
        have hnd : ∀ c, o.op ≠ .defer c := fun c e => by rw [e] at hv; simp [evA] at hv
        rw [Oper.semAt_eq _ _ _ hnd, hab]
        obtain ⟨v', w', h1, h2⟩ := evA_ok (w := w) hF hv
        obtain ⟨m', h3, h4, h5⟩ := hr_new hH hnew h2
        rw [h1, Oper.uponIn_value]
        exact hn m' v' w' h3 h4 h5
      · cases h
    · cases h
  · have hnd : ∀ c, o.op ≠ .defer c := fun c e => by rw [e] at h; simp [evW] at h
    rw [Oper.semAt_eq _ _ _ hnd, hab]
    obtain ⟨m', v', w', h1, h2, h3, h4⟩ := evW_ok hH hF h
    rcases h1 with h1 | ⟨h1, rfl⟩
    · rw [h1, Oper.uponIn_value]
      exact hn m' v' w' h3 h4 h2
    · rw [h1, Oper.uponIn_skip]
      exact hn m' undef w' h3 h4 h2
  · rename_i x0 x1 x2 x3
    clear x0 x1 x2 x3
    obtain ⟨dst, op, type, pos, after, guard⟩ := o
    have hnd : ∀ c, op ≠ .defer c := fun c e => by rw [e] at h; simp [evC] at h
    rw [Oper.semAt_eq _ _ _ hnd, hab]
    cases op
    case call cl =>
      obtain ⟨callee, args, argTypes⟩ := cl
      cases callee
      case value f =>
        simp only [evC] at h
        split at h
        · rename_i fn first cap vs hf hvs
          have hargs := opnds_vr hF hvs
          have h1 := evFn_ok hC hK hX (r := r) hH (opnd_vr hF hf) hargs h ⟨dst, .call ⟨.value f, args, argTypes⟩, type, pos, after, guard⟩ next Q hn
          have e : args.map b.eval = ⟨args.toList.map b.eval⟩ := by
            apply Array.ext'
            simp
          simp only [execOp, resolve, e]
          exact h1
        · cases h
      all_goals simp [evC] at h
    all_goals simp [evC] at h

theorem evOp_ok (hC : CodeOK P n ih) (hK : CallOK P ih) (hX : ExtsOK P E) {r : Option Nat} {o : Oper} {v : Value} (hH : HR P m A w) (hF : FR m fr a)
    (h : evOp P E ih fr A o = some (v, A')) (next : Act → World → Prop) (Q : Exit → Act → World → Prop)
    (hn : ∀ m' v' w', HR P m' A' w' → Ext A m w A' m' w' → VR m' v v' → next (a.put o.dst v') w') : o.wpIn (fence r) 0 P a w next Q := evOp_ok_at hC hK hX hH hF rfl h next Q hn

theorem wanted_eq {ops : Array Oper} (o : Oper) (ht : ∀ j b d, o.guard = some (j, b) → ((ops[j]?).bind (·.dst)) = some d → VR m ((fr.tmps.get d).getD undef) (a.tmps.getD d undef)) :
    Region.wanted o (yielded ops a.tmps) = wantedA ops fr o := by
  unfold Region.wanted wantedA
  cases hg : o.guard with
  | none => rfl
  | some g =>
    obtain ⟨j, b⟩ := g
    simp only [yielded]
    cases hd : ((ops[j]?).bind (·.dst)) with
    | none => simp
    | some d =>
      have h1 := ht j b d hg hd
      simp only [Option.bind_some]
      rw [Array.getD_eq_getD_getElem?] at h1
      cases hx : fr.tmps.get d with
      | none =>
        rw [hx] at h1
        simp only [Option.getD_none] at h1
        cases hy : a.tmps[d]? with
        | none => simp
        | some y =>
          rw [hy] at h1
          simp only [Option.getD_some] at h1
          cases h1
          simp
      | some x =>
        rw [hx] at h1
        simp only [Option.getD_some] at h1
        cases hy : a.tmps[d]? with
        | none =>
          rw [hy] at h1
          simp only [Option.getD_none] at h1
          cases h1
          simp
        | some y =>
          rw [hy] at h1
          simp only [Option.getD_some] at h1
          cases h1 <;> simp
theorem wanted_fr {ops : Array Oper} (hF : FR m fr a) (o : Oper) : Region.wanted o (yielded ops a.tmps) = wantedA ops fr o := wanted_eq o fun _ _ d _ _ => hF.tmps d

/-- **A REGION IN THE ORDER OF ITS TEXT.** -/
theorem evOps_ok (hC : CodeOK P n ih) (hK : CallOK P ih) (hX : ExtsOK P E) {r : Option Nat} {ops : Array Oper} {Q : Exit → Act → World → Prop} : ∀ (l : List Oper) (is : List Nat), is.map (ops[·]?) = l.map some →
    ∀ {m : Mp} {A A' : AW} {w : World} {fr fr' : AFr} {a : Act}, HR P m A w → FR m fr a → DefR m fr.defers a.defers → evOps P E ih ops l fr A = some (fr', A') →
    (∀ m' a' w', HR P m' A' w' → Ext A m w A' m' w' → FR m' fr' a' → DefR m' fr'.defers a'.defers → Q .normal a' w') → wpOpsIn (fence r) 0 P ops Q is a w
  | [], is, hi, m, A, A', w, fr, fr', a, hH, hF, hD, h, hQ => by
    cases is with
    | nil =>
      simp only [evOps, Option.some.injEq, Prod.mk.injEq] at h
      obtain ⟨rfl, rfl⟩ := h
      exact hQ m a w hH (Ext.refl _ _ _) hF hD
    | cons i is => simp at hi
  | o :: l, is, hi, m, A, A', w, fr, fr', a, hH, hF, hD, h, hQ => by
    cases is with
    | nil => simp at hi
    | cons i is =>
      simp only [List.map_cons, List.cons.injEq] at hi
      obtain ⟨ho, hi⟩ := hi
      simp only [wpOpsIn, ho]
      rw [wanted_fr hF]
      simp only [evOps] at h
      cases hw : wantedA ops fr o with
      | true =>
        simp only [hw, cond_true] at h
        simp only [if_true]
        split at h
        · rename_i v A1 h1
          split at h
          · rename_i fr1 h2
            refine evOp_ok hC hK hX hH hF h1 _ _ fun m' v' w' h3 h4 h5 => ?_
            obtain ⟨h6, h7⟩ := (hF.mono h4.le).put h5 h2
            refine evOps_ok hC hK hX l is hi h3 h6 ?_ h fun m'' a' w'' h8 h9 h10 h11 => hQ m'' a' w'' h8 (h4.trans h9) h10 h11
            rw [h7]
            have e : (a.put o.dst v').defers = a.defers := by cases o.dst <;> rfl
            rw [e]
            exact hD.mono h4.le
          · cases h
        · cases h
      | false =>
        simp only [hw, cond_false] at h
        simp only [Bool.false_eq_true, if_false]
        refine ⟨fun _ _ => trivial, ?_⟩
        split at h
        · rename_i fr1 h2
          obtain ⟨h6, h7⟩ := hF.put (vr_undef m) h2
          refine evOps_ok hC hK hX l is hi hH h6 ?_ h hQ
          rw [h7]
          have e : (a.put o.dst undef).defers = a.defers := by cases o.dst <;> rfl
          rw [e]
          exact hD
        · cases h

theorem range_ops (ops : Array Oper) : (List.range ops.size).map (ops[·]?) = ops.toList.map some := by
  apply List.ext_getElem?
  intro i
  by_cases hi : i < ops.size
  · simp [hi]
  · simp [hi]
end
end Ev
end Go
namespace Go
namespace Ev
section
variable {P : Program} {E : Env} {n : Nat} {ih : Fns} {m : Mp} {A A' : AW} {w w' : World} {fr : AFr} {a : Act}

def DrawOK (P : Program) (E : Env) (ih : Fns) : Prop :=
  ∀ ops fr A fr' A', evDraw P E ih ops fr A = some (fr', A') → ∀ m r a w id, HR P m A w → FR m fr a → DefR m fr.defers a.defers →
    ∀ Q : Exit → Act → World → Prop, (∀ m' a' w', HR P m' A' w' → Ext A m w A' m' w' → FR m' fr' a' → DefR m' fr'.defers a'.defers → Q .normal a' w') → (Code.region id ops true).wpIn (fence r) 0 P Q a w

theorem run_enter_none {fn : FuncId} {tmps : Array Value} {ps : Array Tmp} {as bo : Code} :
    (Instr.enterLoop fn tmps ps as bo none).run P w = .ok (w.heap.size + 1, [{ target := .collected w.heap.size, args := #[] }])
      { w with heap := (w.heap.push (.deferred (some []))).push (.loop { state := .ready, pending := none, fn, tmps, params := ps, assign := as, body := bo, defers := w.heap.size }) } := by
  simp [Instr.enterLoop]
  rfl

theorem run_enter_some {fn : FuncId} {tmps : Array Value} {ps : Array Tmp} {as bo : Code} {l : Nat} {r : Loop} (h : w.heap[l]? = some (.loop r)) :
    (Instr.enterLoop fn tmps ps as bo (some l)).run P w = .ok (w.heap.size, [])
      { w with heap := w.heap.push (.loop { state := .ready, pending := none, fn, tmps, params := ps, assign := as, body := bo, defers := r.defers }) } := by
  simp [Instr.enterLoop, run_getLoop h]
  try rfl

/-- A loop's record is laid. -/
theorem hr_record {id d : Nat} {ld : Loc} {fn : FuncId} {ps : Array Tmp} {as bo : Code} (hH : HR P m A w) (hF : FR m fr a) (hd : m d = some ld)
    (hn : A.new (.loop .ready none fr.tmps fr.n ps as bo d) = some (id, A')) :
    ∃ m' loc, HR P m' A' { w with heap := w.heap.push (.loop { state := .ready, pending := none, fn, tmps := a.tmps, params := ps, assign := as, body := bo, defers := ld.blk }) } ∧
      Ext A m w A' m' { w with heap := w.heap.push (.loop { state := .ready, pending := none, fn, tmps := a.tmps, params := ps, assign := as, body := bo, defers := ld.blk }) } ∧ m' id = some loc ∧ loc.blk = w.heap.size := by
  obtain ⟨m', h1, h2, h3⟩ := hr_new (vf := fun id => .pointer (some ⟨id, 0, none⟩)) (v' := .pointer (some ⟨w.heap.size, 0, none⟩)) hH hn
    (w' := { w with heap := w.heap.push (.loop { state := .ready, pending := none, fn, tmps := a.tmps, params := ps, assign := as, body := bo, defers := ld.blk }) })
    ⟨rfl, rfl, rfl, ⟨_, rfl⟩, ⟨w.heap.size, 0, 0, 0⟩, rfl, fun id m' hle hid =>
      ⟨⟨rfl, fn, a.tmps, ld, by simp, hF.size, hF.top, hF.tmps.mono hle, hle _ _ hd⟩, .ptr hid⟩⟩
  cases hm : m' id with
  | none =>
    generalize hv : (Value.pointer (some ⟨w.heap.size, 0, none⟩)) = v at h3
    cases h3 with
    | ptr hb => rw [hm] at hb; cases hb
  | some loc =>
    refine ⟨m', loc, h1, h2, hm, ?_⟩
    generalize hv : (Value.pointer (some ⟨w.heap.size, 0, none⟩)) = v at h3
    cases h3 with
    | ptr hb =>
      rw [hm] at hb
      simp only [Option.some.injEq] at hb
      subst hb
      simp only [Value.pointer.injEq, Option.some.injEq, Addr.mk.injEq] at hv
      exact hv.1.symm

section scope
variable {b : Frame} {k : List Item} {cs : List Frame}
theorem stepR_scope {c : Code} : step P (lone (b.atR a (.code (.scope c) :: k)) cs w) = .next (lone (b.atR a (.code c :: .inScope c :: k)) cs w) :=
  step_lone_go (by simp [stepG, stepG.exec, Frame.atR])
theorem stepR_inScope {c : Code} : step P (lone (b.atR a (.inScope c :: k)) cs w) = .next (lone (b.atR a k) cs w) :=
  step_lone_go (by simp [stepG, stepG.exec, Frame.atR])
end scope

theorem wpIn_scope {F : Fence} {k0 : Nat} {Q : Exit → Act → World → Prop} {c : Code} (h : c.wpIn F k0 P (Exit.noGoto Q) a w) : (Code.scope c).wpIn F k0 P Q a w := by
  intro b k cs hro hb hr
  have h0 : (lone (b.atR a (.code (.scope c) :: k)) cs w).fenced P F := fenced_calm hb hr rfl
  obtain ⟨e, a₁, w₁, hq, harr⟩ := h b (.inScope c :: k) cs hro hb hr
  cases e with
  | normal => exact ⟨.normal, a₁, w₁, hq, .head h0 stepR_scope (StepsIn.trans harr (.one (fenced_calm hb hr rfl) stepR_inScope))⟩
  | exit id =>
    have hx : exitTo id (.inScope c :: k) = exitTo id k := by simp [exitTo]
    exact ⟨.exit id, a₁, w₁, hq, fun k' hk => .head h0 stepR_scope (harr.1 k' (by rw [hx]; exact hk)),
      fun hr' hk => let ⟨k₁, h1, h2⟩ := harr.2 hr' (by rw [hx]; exact hk); ⟨k₁, h1, .head h0 stepR_scope h2⟩⟩
  | goto l => exact hq.elim
  | ret => exact ⟨_, a₁, w₁, hq, .of_steps (.one h0 stepR_scope) harr⟩
  | panic ch => exact ⟨_, a₁, w₁, hq, .of_steps (.one h0 stepR_scope) harr⟩
  | outgrown => exact ⟨_, a₁, w₁, hq, .of_steps (.one h0 stepR_scope) harr⟩

noncomputable def enterA (ro : Option Nat) (fr : AFr) (A : AW) : Option (Nat × AFr × AW) :=
  match ro with
  | none => (match A.new .deferred with | some (d, A) => some (d, (⟨fr.tmps, fr.n, d :: fr.defers⟩ : AFr), A) | none => none)
  | some l0 => (match A.get l0 with | some (.loop _ _ _ _ _ _ _ d) => some (d, fr, A) | _ => none)

/-- A block for the deferred calls. -/
theorem hr_deferred {id : Nat} (hH : HR P m A w) (hn : A.new .deferred = some (id, A')) :
    ∃ m' loc, HR P m' A' { w with heap := w.heap.push (.deferred (some [])) } ∧ Ext A m w A' m' { w with heap := w.heap.push (.deferred (some [])) } ∧ m' id = some loc ∧ loc.blk = w.heap.size := by
  obtain ⟨m', h1, h2, h3⟩ := hr_new (vf := fun id => .pointer (some ⟨id, 0, none⟩)) (v' := .pointer (some ⟨w.heap.size, 0, none⟩)) hH hn
    (w' := { w with heap := w.heap.push (.deferred (some [])) })
    ⟨rfl, rfl, rfl, ⟨_, rfl⟩, ⟨w.heap.size, 0, 0, 0⟩, rfl, fun id m' hle hid => ⟨⟨rfl, by simp⟩, .ptr hid⟩⟩
  generalize hv : (Value.pointer (some ⟨w.heap.size, 0, none⟩)) = v at h3
  cases h3 with
  | @ptr _ _ loc hb =>
    refine ⟨m', loc, h1, h2, hb, ?_⟩
    simp only [Value.pointer.injEq, Option.some.injEq, Addr.mk.injEq] at hv
    exact hv.1.symm

theorem enterA_ok {ro r : Option Nat} {d : Nat} {fr2 : AFr} (h : enterA ro fr A = some (d, fr2, A')) (hr : RoundR m ro r) (hH : HR P m A w) (hF : FR m fr a) (hDf : DefR m fr.defers a.defers) :
    ∃ m' ld mark w', HR P m' A' w' ∧ Ext A m w A' m' w' ∧ m' d = some ld ∧ FR m' fr2 { a with defers := mark ++ a.defers } ∧ DefR m' fr2.defers (mark ++ a.defers) ∧ fr2.tmps = fr.tmps ∧ fr2.n = fr.n ∧
      ∀ fn ps as bo, (Instr.enterLoop fn a.tmps ps as bo r).run P w = .ok (w'.heap.size, mark)
        { w' with heap := w'.heap.push (.loop { state := .ready, pending := none, fn, tmps := a.tmps, params := ps, assign := as, body := bo, defers := ld.blk }) } := by
  rcases hr with ⟨rfl, rfl⟩ | ⟨l, loc, rfl, hm, rfl⟩
  · simp only [enterA] at h
    split at h
    · rename_i d0 A1 hn
      simp only [Option.some.injEq, Prod.mk.injEq] at h
      obtain ⟨rfl, rfl, rfl⟩ := h
      obtain ⟨m', ld, h1, h2, h3, h4⟩ := hr_deferred hH hn
      refine ⟨m', ld, [{ target := .collected w.heap.size, args := #[] }], _, h1, h2, h3, ⟨hF.size, hF.top, (hF.mono h2.le).tmps⟩, ?_, rfl, rfl, fun fn ps as bo => ?_⟩
      · have := DefR.cons h3 (hDf.mono h2.le)
        rw [h4] at this
        exact this
      · rw [run_enter_none, h4]
        simp
    · cases h
  · simp only [enterA] at h
    split at h
    · rename_i st pd tm k ps0 as0 bo0 d0 hg
      simp only [Option.some.injEq, Prod.mk.injEq] at h
      obtain ⟨rfl, rfl, rfl⟩ := h
      obtain ⟨h0, fn0, ar, ld, hb, _, _, _, hd⟩ := hH.obj _ _ _ hg hm
      exact ⟨m, ld, [], w, hH, Ext.refl _ _ _, hd, hF, hDf, rfl, rfl, fun fn ps as bo => run_enter_some hb⟩
    · cases h

/-- **A RANGE OVER A FUNCTION.** -/
theorem evRange_ok (hC : CodeOK P n ih) (hK : CallOK P ih) {ro r : Option Nat} {f : Operand} {ps : Array Tmp} {as bo : Code} {g : FuncId} {first cap : List Value} {d l : Nat} {fr2 fr' : AFr} {A1 A2 A3 : AW} {v : Value} {e : AExit}
    (hf : opnd fr f = some (.func (.func g) ⟨first⟩ ⟨cap⟩)) (he : enterA ro fr A = some (d, fr2, A1)) (hn : A1.new (.loop .ready none fr.tmps fr.n ps as bo d) = some (l, A2))
    (hg : ∃ c k rs, fnInfo P g = some (.body c k rs)) (hcall : ih.call g (first ++ [.func (.yield l) #[] #[]] ++ cap) A2 = some (v, A3))
    (hr : RoundR m ro r) (hH : HR P m A w) (hF : FR m fr a) (hDf : DefR m fr.defers a.defers) (Q : Exit → Act → World → Prop)
    (hend : ∃ st pend tm n' ps' as' bo' df, A3.get l = some (.loop st pend tm n' ps' as' bo' df) ∧ (st == .busy) = false ∧
      ((pend = none ∧ fr' = fr2 ∧ A' = A3.set l (.loop .exhausted pend tm n' ps' as' bo' df) ∧ e = .normal) ∨ ∃ c, pend = some c ∧ ih.code ro c fr2 (A3.set l (.loop .exhausted pend tm n' ps' as' bo' df)) = some (e, fr', A')))
    (hQ : ∀ m' a' w', HR P m' A' w' → Ext A m w A' m' w' → FR m' fr' a' → DefR m' fr'.defers a'.defers → Q (toExit e) a' w') : (Code.rangeFunc f ps as bo).wpIn (fence r) 0 P Q a w := by
  refine wpIn_rangeFunc fun fn _ => ?_
  obtain ⟨m1, ld, mark, w1, h1, h2, h3, h4, h5, h6, h7, h8⟩ := enterA_ok he hr hH hF hDf
  obtain ⟨m2, loc, k1, k2, k3, k4⟩ := hr_record (fn := fn) (ps := ps) (as := as) (bo := bo) h1 (hF.mono h2.le) h3 hn
  have h8' := h8 fn ps as bo
  generalize ({ w1 with heap := w1.heap.push (.loop { state := .ready, pending := none, fn, tmps := a.tmps, params := ps, assign := as, body := bo, defers := ld.blk }) } : World) = w2 at k1 k2 h8'
  have hv := opnd_vr hF hf
  obtain ⟨c0, kk, rs, hi⟩ := hg
  obtain ⟨fnn, hff, hnm, hb, _, _⟩ := fnInfo_body hi
  generalize hy : a.eval f = y at hv
  cases hv with
  | @func _ _ _ xs' ys' hny hx hyy =>
    refine ⟨w1.heap.size, mark, w2, { target := .fn (.func g) ⟨ys'⟩, args := ⟨xs'⟩ ++ #[.func (.yield w1.heap.size) #[] #[]] }, w2, g, ⟨xs' ++ [.func (.yield w1.heap.size) #[] #[]] ++ ys'⟩, w2, h8', ?_, fun _ _ => trivial, ?_, fun hh => by simp [fence, Fence.wide] at hh, ?_⟩
    · have e : (#[Operand.const (.func (.yield w1.heap.size) #[] #[])] : Array Operand).map a.eval = #[.func (.yield w1.heap.size) #[] #[]] := by simp [Act.eval]
      simp only [resolve, hy, Deferred.ofValue, e, Sem.run_pure]
    · simp only [invoke]
      have e : (⟨xs'⟩ ++ #[.func (.yield w1.heap.size) #[] #[]] ++ ⟨ys'⟩ : Array Value) = ⟨xs' ++ [.func (.yield w1.heap.size) #[] #[]] ++ ys'⟩ := by simp
      rw [e]
      exact run_callFunc_body hff hnm (by rw [hb]; rfl)
    · have hle := Mp.le_trans h2.le k2.le
      have hyv : VR m2 (.func (.yield l) #[] #[]) (.func (.yield w1.heap.size) #[] #[]) := by rw [← k4]; exact .yield k3
      have hvs : VRs m2 (first ++ [.func (.yield l) #[] #[]] ++ cap) (xs' ++ [.func (.yield w1.heap.size) #[] #[]] ++ ys') := ((hx.mono hle).append (.cons hyv .nil)).append (hyy.mono hle)
      have hc := hK g _ A2 v A3 hcall m2 ⟨xs' ++ [.func (.yield w1.heap.size) #[] #[]] ++ ys'⟩ w2 k1 hvs (rangePost (fence r) 0 P w1.heap.size Q { a with defers := mark ++ a.defers })
      refine callsIn_fence (hc ?_)
      · intro m3 v' w3 j1 j2 _
        obtain ⟨st, pend, tm, n', ps', as', bo', df, g1, g2, g3⟩ := hend
        have hm3 := j2.le _ _ k3
        obtain ⟨rl, hb3, hs, hpd, _, _, _, _, _, _, _, i1, i2⟩ := hr_loop (st' := .exhausted) (pd' := pend) j1 g1 hm3
        have hE := h2.trans (k2.trans (j2.trans i2))
        rw [k4] at hb3
        have hrun := run_endLoop (P := P) hb3 (by rw [hs]; exact g2)
        have hrl : ({ rl with state := .exhausted } : Loop) = { rl with state := .exhausted, pending := pend } := by rw [← hpd]
        rw [hrl] at hrun
        rw [k4] at i1 i2 hE
        rw [hpd] at hrun
        refine ⟨pend, _, hrun, ?_⟩
        have hle3 := Mp.le_trans k2.le (Mp.le_trans j2.le i2.le)
        rcases g3 with ⟨rfl, rfl, rfl, rfl⟩ | ⟨c, rfl, g4⟩
        · exact hQ m3 _ _ i1 hE (h4.mono hle3) (h5.mono hle3)
        · exact (hC ro c fr2 _ e fr' A' g4 m3 r _ _ (hr.mono (Mp.le_trans h2.le hle3)) i1 (h4.mono hle3) (h5.mono hle3) Q fun m4 a4 w4 q1 q2 q3 q4 => hQ m4 a4 w4 q1 (hE.trans q2) q3 q4).wpIn

/-- **CODE.** -/
theorem evCode_ok (hC : CodeOK P n ih) (hK : CallOK P ih) (hX : ExtsOK P E) (hD : DrawOK P E ih) {ro r : Option Nat} {c : Code} {fr' : AFr} {e : AExit}
    (h : evCode P E ih ro c fr A = some (e, fr', A')) (hr : RoundR m ro r) (hH : HR P m A w) (hF : FR m fr a) (hDf : DefR m fr.defers a.defers) (Q : Exit → Act → World → Prop)
    (hQ : ∀ m' a' w', HR P m' A' w' → Ext A m w A' m' w' → FR m' fr' a' → DefR m' fr'.defers a'.defers → Q (toExit e) a' w') : WP (fence r) P (n + 1) c Q a w := by
  cases c with
  | skip =>
    simp only [evCode, Option.some.injEq, Prod.mk.injEq] at h
    obtain ⟨rfl, rfl, rfl⟩ := h
    exact wpIn_skip (hQ m a w hH (Ext.refl _ _ _) hF hDf)
  | label l =>
    simp only [evCode, Option.some.injEq, Prod.mk.injEq] at h
    obtain ⟨rfl, rfl, rfl⟩ := h
    exact wpIn_label (hQ m a w hH (Ext.refl _ _ _) hF hDf)
  | exit id =>
    simp only [evCode, Option.some.injEq, Prod.mk.injEq] at h
    obtain ⟨rfl, rfl, rfl⟩ := h
    exact wpIn_exit (hQ m a w hH (Ext.refl _ _ _) hF hDf)
  | ret =>
    simp only [evCode, Option.some.injEq, Prod.mk.injEq] at h
    obtain ⟨rfl, rfl, rfl⟩ := h
    exact wpIn_ret (hQ m a w hH (Ext.refl _ _ _) hF hDf)
  | region id ops draw =>
    cases draw with
    | false =>
      simp only [evCode] at h
      split at h
      · rename_i fr1 A1 h1
        simp only [Option.some.injEq, Prod.mk.injEq] at h
        obtain ⟨rfl, rfl, rfl⟩ := h
        exact wpIn_region (evOps_ok hC hK hX ops.toList _ (range_ops ops) hH hF hDf h1 hQ)
      · cases h
    | true =>
      simp only [evCode] at h
      split at h
      · rename_i fr1 A1 h1
        simp only [Option.some.injEq, Prod.mk.injEq] at h
        obtain ⟨rfl, rfl, rfl⟩ := h
        exact hD ops fr A _ _ h1 m r a w id hH hF hDf Q hQ
      · cases h
  | seq x y =>
    simp only [evCode] at h
    cases hx : ih.code ro x fr A with
    | none => simp [hx] at h
    | some v =>
      obtain ⟨e1, fr1, A1⟩ := v
      refine wpIn_seq (hC ro x fr A e1 fr1 A1 hx m r a w hr hH hF hDf _ fun m1 a1 w1 h1 h2 h3 h4 => ?_).wpIn
      cases e1 with
      | normal =>
        simp only [hx] at h
        exact (hC ro y fr1 A1 e fr' A' h m1 r a1 w1 (hr.mono h2.le) h1 h3 h4 Q fun m2 a2 w2 h5 h6 h7 h8 => hQ m2 a2 w2 h5 (h2.trans h6) h7 h8).wpIn
      | exit id =>
        simp only [hx, Option.some.injEq, Prod.mk.injEq] at h
        obtain ⟨rfl, rfl, rfl⟩ := h
        exact hQ m1 a1 w1 h1 h2 h3 h4
      | ret =>
        simp only [hx, Option.some.injEq, Prod.mk.injEq] at h
        obtain ⟨rfl, rfl, rfl⟩ := h
        exact hQ m1 a1 w1 h1 h2 h3 h4
  | cond cnd x y =>
    simp only [evCode] at h
    split at h
    · rename_i hc
      have hv := opnd_vr hF hc
      have hb : a.eval cnd = .bool true := hv.plain rfl
      exact wpIn_cond_true hb (hC ro x fr A e fr' A' h m r a w hr hH hF hDf Q hQ).wpIn
    · rename_i hc
      have hv := opnd_vr hF hc
      have hb : a.eval cnd = .bool false := hv.plain rfl
      exact wpIn_cond_false hb (hC ro y fr A e fr' A' h m r a w hr hH hF hDf Q hQ).wpIn
    · cases h
  | block id b =>
    simp only [evCode] at h
    cases hx : ih.code ro b fr A with
    | none => simp [hx] at h
    | some v =>
      obtain ⟨e1, fr1, A1⟩ := v
      refine wpIn_block (hC ro b fr A e1 fr1 A1 hx m r a w hr hH hF hDf _ fun m1 a1 w1 h1 h2 h3 h4 => ?_).wpIn
      cases e1 with
      | normal =>
        simp only [hx, Option.some.injEq, Prod.mk.injEq] at h
        obtain ⟨rfl, rfl, rfl⟩ := h
        exact hQ m1 a1 w1 h1 h2 h3 h4
      | ret =>
        simp only [hx, Option.some.injEq, Prod.mk.injEq] at h
        obtain ⟨rfl, rfl, rfl⟩ := h
        exact hQ m1 a1 w1 h1 h2 h3 h4
      | exit id' =>
        simp only [hx] at h
        change if id' = id then _ else _
        cases hb : Nat.beq id' id with
        | true =>
          have he := beq_true hb
          simp only [hb, cond_true, Option.some.injEq, Prod.mk.injEq] at h
          obtain ⟨rfl, rfl, rfl⟩ := h
          rw [if_pos he]
          exact hQ m1 a1 w1 h1 h2 h3 h4
        | false =>
          have he : id' ≠ id := fun he => by rw [he] at hb; have := Nat.beq_refl id; rw [hb] at this; cases this
          simp only [hb, cond_false, Option.some.injEq, Prod.mk.injEq] at h
          obtain ⟨rfl, rfl, rfl⟩ := h
          rw [if_neg he]
          exact hQ m1 a1 w1 h1 h2 h3 h4
  | loop b =>
    simp only [evCode] at h
    change Code.roundsIn (fence r) 0 P b Q (n + 1) a w
    rw [roundsIn_succ]
    cases hx : ih.code ro b fr A with
    | none => simp [hx] at h
    | some v =>
      obtain ⟨e1, fr1, A1⟩ := v
      refine (hC ro b fr A e1 fr1 A1 hx m r a w hr hH hF hDf _ fun m1 a1 w1 h1 h2 h3 h4 => ?_).wpIn
      cases e1 with
      | normal =>
        simp only [hx] at h
        exact hC ro (.loop b) fr1 A1 e fr' A' h m1 r a1 w1 (hr.mono h2.le) h1 h3 h4 Q fun m2 a2 w2 h5 h6 h7 h8 => hQ m2 a2 w2 h5 (h2.trans h6) h7 h8
      | exit id =>
        simp only [hx, Option.some.injEq, Prod.mk.injEq] at h
        obtain ⟨rfl, rfl, rfl⟩ := h
        exact hQ m1 a1 w1 h1 h2 h3 h4
      | ret =>
        simp only [hx, Option.some.injEq, Prod.mk.injEq] at h
        obtain ⟨rfl, rfl, rfl⟩ := h
        exact hQ m1 a1 w1 h1 h2 h3 h4
  | scope b =>
    simp only [evCode] at h
    refine wpIn_scope (hC ro b fr A e fr' A' h m r a w hr hH hF hDf _ fun m1 a1 w1 h1 h2 h3 h4 => ?_).wpIn
    have := hQ m1 a1 w1 h1 h2 h3 h4
    cases e <;> exact this
  | goto l => simp [evCode] at h
  | refuse s => simp [evCode] at h
  | rangeFunc f ps as bo =>
    simp only [evCode] at h
    split at h
    · rename_i g first cap hf
      change (match enterA ro fr A with | none => none | some (d, fr2, A) => _) = _ at h
      split at h
      · cases h
      · rename_i d fr2 A1 he
        split at h
        · cases h
        · rename_i l A2 hn
          split at h
          · rename_i c0 k0 rs0 hg
            split at h
            · cases h
            · rename_i v A3 hcall
              split at h
              · rename_i st pend tm n' ps' as' bo' df hg3
                refine evRange_ok hC hK hf he hn ⟨_, _, _, hg⟩ hcall hr hH hF hDf Q ⟨st, pend, tm, n', ps', as', bo', df, hg3, ?_⟩ hQ
                cases st <;> first | (simp at h; done) | skip
                all_goals
                  refine ⟨rfl, ?_⟩
                  cases pend with
                  | none =>
                    simp only [Option.some.injEq, Prod.mk.injEq] at h
                    obtain ⟨rfl, rfl, rfl⟩ := h
                    exact .inl ⟨rfl, rfl, rfl, rfl⟩
                  | some c => exact .inr ⟨c, rfl, h⟩
              · cases h
          · cases h
    · cases h
end
end Ev
end Go
namespace Go
namespace Ev
section
variable {P : Program} {E : Env} {n : Nat} {ih : Fns} {m : Mp} {A A' : AW} {w w' : World} {fr : AFr} {a : Act}

/-- **A CALL OF A FUNCTION.** -/
theorem evCall_ok (hC : CodeOK P n ih) (hO : OvOK P E) {f : FuncId} {args : List Value} {v : Value} (h : evCall P E ih f args A = some (v, A')) : CallAt P f args A v A' := by
  unfold evCall at h
  split at h
  · rename_i r hr
    subst h
    exact hO f args A v A' hr
  · split at h
    · rename_i c k rs hi
      obtain ⟨fn, hf, _, hb, hk, hrs⟩ := fnInfo_body hi
      subst hk
      subst hrs
      simp only at h
      obtain ⟨htop, h⟩ := bif_some' h
      have htop := ble_true htop
      intro m args' w hH hv R hR
      have hF : FR m ⟨layTmps args 0 .e, bif Nat.ble fn.ntmps args.length then args.length else fn.ntmps, []⟩ { tmps := args' ++ Array.replicate (fn.ntmps - args'.size) undef, defers := [] } := enter_fr hv rfl htop
      refine callsIn_of_wp_marks hf hb trivial ?_
      cases hx : ih.code none c ⟨layTmps args 0 .e, bif Nat.ble fn.ntmps args.length then args.length else fn.ntmps, []⟩ A with
      | none => rw [hx] at h; simp at h
      | some x =>
        obtain ⟨e, fr1, A1⟩ := x
        rw [hx] at h
        have main : (match takeMarks fr1.defers A1 with
            | some A => (match resultsOf P fr1 A fn.results.toList with
               | some vs => some (oneOrTuple vs, A)
               | none => none)
            | none => none) = some (v, A') → ∀ m1 a1 w1, HR P m1 A1 w1 → Ext A m w A1 m1 w1 → FR m1 fr1 a1 → DefR m1 fr1.defers a1.defers → LeavesInM Fence.wide 0 P fn a1.tmps R a1.defers .returning w1 := by
          intro h m1 a1 w1 h1 h2 h3 h4
          split at h
          · rename_i A2 hm
            split at h
            · rename_i vs hvs
              simp only [Option.some.injEq, Prod.mk.injEq] at h
              obtain ⟨rfl, rfl⟩ := h
              refine leaves_ok (m := m1) (a := a1) h4 hm h1 fun w2 h5 h6 => ?_
              obtain ⟨v', h7, h8⟩ := results_ok h5.objs h3 hvs
              exact ⟨v', h7, hR m1 v' w2 h5 (h2.trans h6) h8⟩
            · cases h
          · cases h
        have hcode := hC none c _ A e fr1 A1 hx m none _ w (.inl ⟨rfl, rfl⟩) hH hF .nil (bodyPostM Fence.wide 0 P fn R)
        cases e with
        | exit id => simp at h
        | normal => exact (hcode fun m1 a1 w1 h1 h2 h3 h4 => main h m1 a1 w1 h1 h2 h3 h4).wpIn
        | ret => exact (hcode fun m1 a1 w1 h1 h2 h3 h4 => main h m1 a1 w1 h1 h2 h3 h4).wpIn
    · cases h

/-- **THE EVALUATOR IS SOUND.** -/
theorem ev_sound (hX : ExtsOK P E) (hO : OvOK P E) (hD : ∀ n ih, CodeOK P n ih → CallOK P ih → DrawOK P E ih) : ∀ n, CodeOK P n (ev P E n) ∧ CallOK P (ev P E n)
  | 0 => by
    refine ⟨fun ro c fr A e fr' A' h => ?_, fun f args A v A' h => ?_⟩
    · change (none : Option (AExit × AFr × AW)) = _ at h
      cases h
    · change (none : Option (Value × AW)) = _ at h
      cases h
  | n + 1 => by
    obtain ⟨hC, hK⟩ := ev_sound hX hO hD n
    refine ⟨fun ro c fr A e fr' A' h m r a w hr hH hF hDf Q hQ => ?_, fun f args A v A' h => ?_⟩
    · change evCode P E (ev P E n) ro c fr A = _ at h
      exact evCode_ok hC hK hX (hD n _ hC hK) h hr hH hF hDf Q hQ
    · change evCall P E (ev P E n) f args A = _ at h
      exact evCall_ok hC hO h
end
end Ev
end Go
namespace Go
namespace Ev
mutual
theorem vEq_eq : ∀ (v u : Value), vEq v u = true → v = u
  | .bool a, u, h => by cases u <;> simp_all [vEq]
  | .int k n, u, h => by
    cases u <;> simp only [vEq, Bool.and_eq_true, beq_iff_eq, Bool.false_eq_true] at h
    rw [h.1, h.2]
  | .float k n, u, h => by cases u <;> simp [vEq] at h
  | .complex k a b, u, h => by cases u <;> simp [vEq] at h
  | .string s, u, h => by
    cases u <;> simp only [vEq, beq_iff_eq, Bool.false_eq_true] at h
    rename_i s2
    have : s = s2 := ByteArray.ext (Array.ext' h)
    rw [this]
  | .pointer none, u, h => by
    cases u <;> try (simp [vEq] at h; done)
    rename_i p
    cases p <;> first | rfl | (simp [vEq] at h; done)
  | .pointer (some ⟨b, o, none⟩), u, h => by
    cases u <;> try (simp [vEq] at h; done)
    rename_i p
    rcases p with _ | ⟨b2, o2, _ | s2⟩ <;> simp only [vEq, Bool.and_eq_true, Bool.false_eq_true] at h
    rw [beq_true h.1, beq_true h.2]
  | .pointer (some ⟨b, o, some s⟩), u, h => by
    cases u <;> try (simp [vEq] at h; done)
  | .slice none a b, u, h => by
    cases u <;> try (simp [vEq] at h; done)
    rename_i p x y
    rcases p with _ | ⟨b2, o2, s2⟩ <;> simp only [vEq, Bool.and_eq_true, Bool.false_eq_true] at h
    rw [beq_true h.1, beq_true h.2]
  | .slice (some ⟨b, o, none⟩) l c, u, h => by
    cases u <;> try (simp [vEq] at h; done)
    rename_i p x y
    rcases p with _ | ⟨b2, o2, _ | s2⟩ <;> simp only [vEq, Bool.and_eq_true, Bool.false_eq_true] at h
    obtain ⟨⟨⟨h1, h2⟩, h3⟩, h4⟩ := h
    rw [beq_true h1, beq_true h2, beq_true h3, beq_true h4]
  | .slice (some ⟨b, o, some s⟩) l c, u, h => by
    cases u <;> try (simp [vEq] at h; done)
  | .map none, u, h => by
    cases u <;> try (simp [vEq] at h; done)
    rename_i p
    cases p <;> first | rfl | (simp [vEq] at h; done)
  | .map (some r), u, h => by
    cases u <;> try (simp [vEq] at h; done)
    rename_i p
    cases p <;> simp only [vEq, Bool.false_eq_true] at h
    rw [beq_true h]
  | .chan p, u, h => by cases u <;> simp [vEq] at h
  | .func f ⟨a⟩ ⟨b⟩, u, h => by
    cases u <;> try (simp [vEq] at h; done)
    rename_i g c d
    obtain ⟨c⟩ := c
    obtain ⟨d⟩ := d
    simp only [vEq, Bool.and_eq_true] at h
    have hf : f = g := by simpa using h.1.1
    rw [hf, vEqs_eq a c h.1.2, vEqs_eq b d h.2]
  | .nilFunc, u, h => by cases u <;> first | rfl | (simp [vEq] at h; done)
  | .iface t a, u, h => by
    cases u <;> try (simp [vEq] at h; done)
    rename_i t2 b
    simp only [vEq, Bool.and_eq_true] at h
    rw [beq_true h.1, vEq_eq a b h.2]
  | .nilIface, u, h => by cases u <;> first | rfl | (simp [vEq] at h; done)
  | .agg ⟨a⟩, u, h => by
    cases u <;> try (simp [vEq] at h; done)
    rename_i b
    obtain ⟨b⟩ := b
    simp only [vEq] at h
    rw [vEqs_eq a b h]
  | .tuple ⟨a⟩, u, h => by
    cases u <;> try (simp [vEq] at h; done)
    rename_i b
    obtain ⟨b⟩ := b
    simp only [vEq] at h
    rw [vEqs_eq a b h]
theorem vEqs_eq : ∀ (v u : List Value), vEqs v u = true → v = u
  | [], u, h => by cases u <;> first | rfl | (simp [vEqs] at h; done)
  | a :: l, u, h => by
    cases u with
    | nil => simp [vEqs] at h
    | cons b k =>
      simp only [vEqs, Bool.and_eq_true] at h
      rw [vEq_eq a b h.1, vEqs_eq l k h.2]
end

theorem obEq_eq {o u : AObj} (h : obEq o u = true) : o = u := by
  unfold obEq at h
  split at h
  · obtain ⟨h1, h2⟩ := and_true h
    rw [vEqs_eq _ _ h1, beq_true h2]
  · rw [beq_true h]
  · cases h
end Ev
end Go
namespace Go
namespace Ev
section
variable {P : Program} {ops : Array Oper}

theorem befFold (M : List Nat) : ∀ (l : List Edge) (s h : Nat), Nat.testBit (l.foldl (befStep M) s) h = true ↔
    (Nat.testBit s h = true ∨ ∃ e ∈ l, Region.binds .any e = true ∧ (h = e.on ∨ Nat.testBit (M.getD e.on 0) h = true))
  | [], s, h => by simp
  | e :: l, s, h => by
    rw [List.foldl_cons, befFold M l]
    unfold befStep
    cases hb : Region.binds .any e with
    | false =>
      simp only [cond_false, List.mem_cons]
      constructor
      · rintro (h1 | ⟨e', h1, h2⟩)
        · exact .inl h1
        · exact .inr ⟨e', .inr h1, h2⟩
      · rintro (h1 | ⟨e', rfl | h1, h2, h3⟩)
        · exact .inl h1
        · rw [hb] at h2; cases h2
        · exact .inr ⟨e', h1, h2, h3⟩
    | true =>
      simp only [cond_true, Nat.testBit_or, Bool.or_eq_true, List.mem_cons, Nat.testBit_two_pow, decide_eq_true_eq]
      constructor
      · rintro (((h1 | h1) | h1) | ⟨e', h1, h2⟩)
        · exact .inl h1
        · exact .inr ⟨e, .inl rfl, hb, .inl h1.symm⟩
        · exact .inr ⟨e, .inl rfl, hb, .inr h1⟩
        · exact .inr ⟨e', .inr h1, h2⟩
      · rintro (h1 | ⟨e', rfl | h1, h2, h3 | h3⟩)
        · exact .inl (.inl (.inl h1))
        · exact .inl (.inl (.inr h3.symm))
        · exact .inl (.inr h3)
        · exact .inr ⟨e', h1, h2, .inl h3⟩
        · exact .inr ⟨e', h1, h2, .inr h3⟩

theorem befsOK_get (M : List Nat) : ∀ {l : List Oper} {r : List Nat}, befsOK M l r = true → r.length = l.length ∧ ∀ (k : Nat) (o : Oper), l[k]? = some o → ∃ b, r[k]? = some b ∧ b = befOf M o
  | [], [], _ => ⟨rfl, fun k o h => by simp at h⟩
  | [], _ :: _, h => by simp [befsOK] at h
  | _ :: _, [], h => by simp [befsOK] at h
  | o :: l, b :: r, h => by
    simp only [befsOK] at h
    obtain ⟨h1, h2⟩ := and_true h
    obtain ⟨h3, h4⟩ := befsOK_get M h2
    refine ⟨by simp [h3], fun k o' hk => ?_⟩
    cases k with
    | zero =>
      simp only [List.getElem?_cons_zero, Option.some.injEq] at hk
      subst hk
      exact ⟨b, rfl, beq_true h1⟩
    | succ k =>
      simp only [List.getElem?_cons_succ] at hk
      exact h4 k o' hk

theorem infoOf_get : ∀ {l : List Oper} {M : List Nat}, M.length = l.length → (infoOf P ops l M).length = l.length ∧
    ∀ (k : Nat) (o : Oper) (b : Nat), l[k]? = some o → M[k]? = some b → (infoOf P ops l M)[k]? = some ⟨isHeavy P o.op, (o.dst, looksL ops o), b⟩
  | [], [], _ => ⟨rfl, fun k o b h => by simp at h⟩
  | o :: l, b :: M, h => by
    obtain ⟨h1, h2⟩ := infoOf_get (l := l) (M := M) (by simpa using h)
    refine ⟨by simp [infoOf, h1], fun k o' b' hk hb => ?_⟩
    cases k with
    | zero =>
      simp only [List.getElem?_cons_zero, Option.some.injEq] at hk hb
      subst hk
      subst hb
      rfl
    | succ k =>
      simp only [List.getElem?_cons_succ] at hk hb
      simp only [infoOf, List.getElem?_cons_succ]
      exact h2 k o' b' hk hb
  | [], _ :: _, h => by simp at h
  | _ :: _, [], h => by simp at h

theorem backOK_get : ∀ {l : List Oper} {j : Nat}, backOK l j = true → ∀ (k : Nat) (o : Oper), l[k]? = some o → ∀ e ∈ o.after, Region.binds .any e = true → e.on < j + k
  | [], _, _, k, o, hk => by simp at hk
  | o0 :: l, j, h, k, o, hk => by
    simp only [backOK] at h
    obtain ⟨h1, h2⟩ := and_true h
    cases k with
    | zero =>
      simp only [List.getElem?_cons_zero, Option.some.injEq] at hk
      subst hk
      intro e he hb
      rw [List.all_eq_true] at h1
      have := h1 e (by simpa using he)
      rw [hb] at this
      simp only [Bool.not_true, Bool.false_or] at this
      exact blt_true this
    | succ k =>
      simp only [List.getElem?_cons_succ] at hk
      intro e he hb
      have := backOK_get h2 k o hk e he hb
      omega

theorem againstAll_get {y : RI} : ∀ {l : List RI} {i : Nat}, againstAll y l i = true → ∀ (k : Nat) (x : RI), l[k]? = some x → pairOK x y (i + k) = true
  | [], _, _, k, x, hk => by simp at hk
  | x0 :: l, i, h, k, x, hk => by
    simp only [againstAll] at h
    obtain ⟨h1, h2⟩ := and_true h
    cases k with
    | zero =>
      simp only [List.getElem?_cons_zero, Option.some.injEq] at hk
      subst hk
      exact h1
    | succ k =>
      simp only [List.getElem?_cons_succ] at hk
      have := againstAll_get h2 k x hk
      rw [show Nat.succ i + k = i + (k + 1) by omega] at this
      exact this

theorem pairsOK_get : ∀ {l done : List RI}, pairsOK l done = true → ∀ (i k : Nat) (x y : RI), i < done.length + k → (done ++ l)[i]? = some x → l[k]? = some y → pairOK x y i = true
  | [], _, _, i, k, x, y, _, _, hk => by simp at hk
  | y0 :: l, done, h, i, k, x, y, hlt, hi, hk => by
    simp only [pairsOK] at h
    obtain ⟨h1, h2⟩ := and_true h
    cases k with
    | zero =>
      simp only [List.getElem?_cons_zero, Option.some.injEq] at hk
      subst hk
      have h3 : done[i]? = some x := by
        rw [List.getElem?_append_left (by omega)] at hi
        exact hi
      have := againstAll_get h1 i x h3
      rwa [Nat.zero_add] at this
    | succ k =>
      simp only [List.getElem?_cons_succ] at hk
      refine pairsOK_get h2 i k x y (by simp; omega) ?_ hk
      simpa using hi

/-- What the look at a region has shown. -/
structure RIok (P : Program) (ops : Array Oper) (I : List RI) : Prop where
  len : I.length = ops.size
  at' : ∀ (k : Nat) (o : Oper), ops[k]? = some o → ∃ x, I[k]? = some x ∧ x.heavy = isHeavy P o.op ∧ x.tm = (o.dst, looksL ops o)
  bef : ∀ (k : Nat) (o : Oper) (x : RI) (h : Nat), ops[k]? = some o → I[k]? = some x → (Nat.testBit x.bef h = true ↔ ∃ e ∈ o.after, Region.binds .any e = true ∧ (h = e.on ∨ ∃ y, I[e.on]? = some y ∧ Nat.testBit y.bef h = true))
  back : ∀ (k : Nat) (o : Oper), ops[k]? = some o → ∀ e ∈ o.after, Region.binds .any e = true → e.on < k
  pair : ∀ (i k : Nat) (x y : RI), i < k → I[i]? = some x → I[k]? = some y → Nat.testBit y.bef i = true ∨ (apartA x.tm y.tm = true ∧ ¬ (x.heavy = true ∧ y.heavy = true))

theorem regionInfo_ok {I : List RI} (h : regionInfo P ops = some I) : RIok P ops I := by
  unfold regionInfo at h
  simp only at h
  obtain ⟨hc, h⟩ := bif_some' h
  simp only [Option.some.injEq] at h
  obtain ⟨hc, hp⟩ := and_true hc
  obtain ⟨hm, hb⟩ := and_true hc
  generalize hM : masks ops.toList [] = M at *
  obtain ⟨hlen, hget⟩ := befsOK_get M hm
  obtain ⟨hl, hi⟩ := infoOf_get (P := P) (ops := ops) hlen
  subst h
  have at0 : ∀ (k : Nat) (o : Oper), ops[k]? = some o → ∃ b, M[k]? = some b ∧ b = befOf M o ∧ (infoOf P ops ops.toList M)[k]? = some ⟨isHeavy P o.op, (o.dst, looksL ops o), b⟩ := fun k o hk => by
    have hk' : ops.toList[k]? = some o := by simpa using hk
    obtain ⟨b, h1, h2⟩ := hget k o hk'
    exact ⟨b, h1, h2, hi k o b hk' h1⟩
  refine ⟨by simpa using hl, fun k o hk => ?_, fun k o x h hk hx => ?_, fun k o hk e he hbd => ?_, fun i k x y hlt hx hy => ?_⟩
  · obtain ⟨b, _, _, h3⟩ := at0 k o hk
    exact ⟨_, h3, rfl, rfl⟩
  · obtain ⟨b, h1, h2, h3⟩ := at0 k o hk
    rw [h3] at hx
    simp only [Option.some.injEq] at hx
    subst hx
    simp only
    rw [h2, befOf, befFold]
    simp only [Nat.zero_testBit, Bool.false_eq_true, false_or, Array.mem_toList_iff]
    constructor
    · rintro ⟨e, he, hbd, h4⟩
      refine ⟨e, he, hbd, h4.imp id fun h4 => ?_⟩
      cases hMe : M[e.on]? with
      | none => simp [List.getD, hMe] at h4
      | some b' =>
        have hlt : e.on < M.length := (List.getElem?_eq_some_iff.1 hMe).1
        obtain ⟨o', ho'⟩ : ∃ o', ops[e.on]? = some o' := ⟨ops[e.on]'(by rw [hlen] at hlt; simpa using hlt), by simp⟩
        obtain ⟨b2, h5, h6, h7⟩ := at0 e.on o' ho'
        refine ⟨_, h7, ?_⟩
        simp only
        rw [hMe] at h5
        simp only [Option.some.injEq] at h5
        subst h5
        simpa [List.getD, hMe] using h4
    · rintro ⟨e, he, hbd, h4⟩
      refine ⟨e, he, hbd, h4.imp id fun ⟨y, hy, h5⟩ => ?_⟩
      have hlt : e.on < (infoOf P ops ops.toList M).length := (List.getElem?_eq_some_iff.1 hy).1
      obtain ⟨o', ho'⟩ : ∃ o', ops[e.on]? = some o' := ⟨ops[e.on]'(by rw [hl] at hlt; simpa using hlt), by simp⟩
      obtain ⟨b2, h6, h7, h8⟩ := at0 e.on o' ho'
      rw [h8] at hy
      simp only [Option.some.injEq] at hy
      subst hy
      simpa [List.getD, h6] using h5
  · have := backOK_get hb k o (by simpa using hk) e he hbd
    omega
  · have := pairsOK_get hp i k x y (by simpa using hlt) (by simpa using hx) hy
    unfold pairOK at this
    simp only [Bool.or_eq_true, Bool.and_eq_true, Bool.not_eq_true'] at this
    exact this.imp id fun ⟨h1, h2⟩ => ⟨h1, fun ⟨h3, h4⟩ => by rw [h3, h4] at h2; cases h2⟩
end
end Ev
end Go
namespace Go
namespace Ev
section
variable {P : Program} {E : Env} {ih : Fns} {ops : Array Oper}

/-- The frame and the world ahead of an operation. -/
def nextOf (rs : List TRec) (fr' : AFr) (A' : AW) (k : Nat) : AFr × AW :=
  match rs[k]? with
  | some r => (r.full, r.A)
  | none => (fr', A')

structure StepR (P : Program) (E : Env) (ih : Fns) (ops : Array Oper) (r : TRec) (id : Nat) (nx : AFr × AW) : Prop where
  want : wantedA ops r.full r.o = r.w
  put : r.full.put r.o.dst r.v = some nx.1
  yes : r.w = true → r.fr = maskFr r.full r.o ∧ evStep P E ih r.fr r.A r.o id = some (r.v, nx.2, r.ob)
  no : r.w = false → r.v = undef ∧ nx.2 = r.A

theorem trace_ok : ∀ {l : List Oper} {id : Nat} {fr fr' : AFr} {A A' : AW} {rs : List TRec}, evTrace P E ih ops l id fr A = some (rs, fr', A') →
    rs.map (·.o) = l ∧ nextOf rs fr' A' 0 = (fr, A) ∧ ∀ (k : Nat) (r : TRec), rs[k]? = some r → StepR P E ih ops r (id + k) (nextOf rs fr' A' (k + 1))
  | [], id, fr, fr', A, A', rs, h => by
    simp only [evTrace, Option.some.injEq, Prod.mk.injEq] at h
    obtain ⟨rfl, rfl, rfl⟩ := h
    exact ⟨rfl, rfl, fun k r hk => by simp at hk⟩
  | o :: l, id, fr, fr', A, A', rs, h => by
    simp only [evTrace] at h
    have fin : ∀ {r0 : TRec} {rs1 : List TRec} {fr1 : AFr} {A1 : AW}, evTrace P E ih ops l (Nat.succ id) fr1 A1 = some (rs1, fr', A') → r0.o = o → r0.full = fr → r0.A = A → StepR P E ih ops r0 id (fr1, A1) →
        (r0 :: rs1).map (·.o) = o :: l ∧ nextOf (r0 :: rs1) fr' A' 0 = (fr, A) ∧ ∀ (k : Nat) (r : TRec), (r0 :: rs1)[k]? = some r → StepR P E ih ops r (id + k) (nextOf (r0 :: rs1) fr' A' (k + 1)) := by
      intro r0 rs1 fr1 A1 h1 ho hf hA hs
      obtain ⟨h2, h3, h4⟩ := trace_ok h1
      have hnx : ∀ k, nextOf (r0 :: rs1) fr' A' (k + 1) = nextOf rs1 fr' A' k := fun k => by simp [nextOf]
      refine ⟨by simp [h2, ho], by simp [nextOf, hf, hA], fun k r hk => ?_⟩
      rw [hnx]
      cases k with
      | zero =>
        simp only [List.getElem?_cons_zero, Option.some.injEq] at hk
        subst hk
        rw [h3]
        exact hs
      | succ k =>
        simp only [List.getElem?_cons_succ] at hk
        have := h4 k r hk
        rw [show Nat.succ id + k = id + (k + 1) by omega] at this
        exact this
    cases hw : wantedA ops fr o with
    | true =>
      simp only [hw, cond_true] at h
      split at h
      · rename_i v A1 ob hs
        split at h
        · rename_i fr1 hp
          split at h
          · rename_i rs1 x hx
            simp only [Option.some.injEq, Prod.mk.injEq] at h
            obtain ⟨rfl, rfl⟩ := h
            exact fin hx rfl rfl rfl ⟨hw, hp, fun _ => ⟨rfl, hs⟩, fun h => by cases h⟩
          · cases h
        · cases h
      · cases h
    | false =>
      simp only [hw, cond_false] at h
      split at h
      · rename_i fr1 hp
        split at h
        · rename_i rs1 x hx
          simp only [Option.some.injEq, Prod.mk.injEq] at h
          obtain ⟨rfl, rfl⟩ := h
          exact fin hx rfl rfl rfl ⟨hw, hp, fun h => (by cases h), fun _ => ⟨rfl, rfl⟩⟩
        · cases h
      · cases h

/-- Is it an operation that lays, and is it carried out? -/
def lays (P : Program) (r : TRec) : Bool := r.w && Nat.beq (kind P r.o.op) 2
def layAt (P : Program) (rs : List TRec) (base id : Nat) : Option AObj :=
  if base ≤ id then (match rs[id - base]? with | some r => if lays P r then some r.ob else none | none => none) else none
/-- The blocks ahead of an operation, and those that will yet be laid. -/
noncomputable def G (P : Program) (rs : List TRec) (fr' : AFr) (A' : AW) (base k : Nat) : Nat → Option AObj := fun id =>
  if base + k ≤ id then (match layAt P rs base id with | some ob => some ob | none => (nextOf rs fr' A' k).2.get id) else (nextOf rs fr' A' k).2.get id

theorem layAt_some {rs : List TRec} {base id : Nat} {ob : AObj} (h : layAt P rs base id = some ob) : ∃ i r, id = base + i ∧ rs[i]? = some r ∧ lays P r = true ∧ r.ob = ob := by
  unfold layAt at h
  split at h
  · split at h
    · rename_i r hr
      split at h
      · rename_i hl
        simp only [Option.some.injEq] at h
        exact ⟨id - base, r, by omega, hr, hl, h⟩
      · cases h
    · cases h
  · cases h
theorem layAt_get {rs : List TRec} {base i : Nat} {r : TRec} (hr : rs[i]? = some r) (hl : lays P r = true) : layAt P rs base (base + i) = some r.ob := by
  unfold layAt
  rw [if_pos (by omega), show base + i - base = i by omega, hr]
  simp [hl]
theorem layAt_not {rs : List TRec} {base i : Nat} {r : TRec} (hr : rs[i]? = some r) (hl : lays P r = false) : layAt P rs base (base + i) = none := by
  unfold layAt
  rw [if_pos (by omega), show base + i - base = i by omega, hr]
  simp [hl]

/-- An operation that turns nothing turns nothing. -/
theorem step_light {r : TRec} {id : Nat} {nx : AFr × AW} (hs : StepR P E ih ops r id nx) (hh : isHeavy P r.o.op = false) (hl : lays P r = false) : nx.2 = r.A := by
  cases hw : r.w with
  | false => exact (hs.no hw).2
  | true =>
    obtain ⟨_, h⟩ := hs.yes hw
    unfold evStep at h
    have h2 : Nat.beq (kind P r.o.op) 2 = false := by simpa [lays, hw] using hl
    rw [h2] at h
    simp only [cond_false] at h
    unfold isHeavy at hh
    split at h
    · rename_i v A1 h1
      simp only [Option.some.injEq, Prod.mk.injEq] at h
      obtain ⟨_, rfl, _⟩ := h
      unfold evOp at h1
      split at h1
      · split at h1
        · simp only [Option.some.injEq, Prod.mk.injEq] at h1; exact h1.2.symm
        · cases h1
      · split at h1
        · simp only [Option.some.injEq, Prod.mk.injEq] at h1; exact h1.2.symm
        · cases h1
      · rename_i hk; rw [hk] at h2; cases h2
      · rename_i hk; rw [hk] at hh; cases hh
      · rename_i x0 x1 x2 x3
        have h0 : kind P r.o.op ≠ 0 := x0
        have h1' : kind P r.o.op ≠ 1 := x1
        have h2' : kind P r.o.op ≠ 2 := x2
        have : 3 ≤ kind P r.o.op := by omega
        rw [Nat.ble_eq_true_of_le this] at hh
        cases hh
    · cases h
theorem step_lay {r : TRec} {id : Nat} {nx : AFr × AW} (hs : StepR P E ih ops r id nx) (hl : lays P r = true) :
    ∃ vf, evA P r.fr r.o.op = some (r.ob, vf) ∧ r.v = vf id ∧ nx.2 = ⟨r.A.heap.put fuel4 (some r.ob) id, r.A.next⟩ := by
  unfold lays at hl
  obtain ⟨hw, hk⟩ := and_true hl
  obtain ⟨_, h⟩ := hs.yes hw
  unfold evStep at h
  rw [hk] at h
  simp only [cond_true] at h
  split at h
  · rename_i ob vf h1
    simp only [Option.some.injEq, Prod.mk.injEq] at h
    obtain ⟨h2, h3, h4⟩ := h
    subst h4
    exact ⟨vf, h1, h2.symm, h3.symm⟩
  · cases h

theorem G_light {rs : List TRec} {fr' : AFr} {A' : AW} {base k : Nat} {r : TRec} (hr : rs[k]? = some r) (hs : StepR P E ih ops r (base + k) (nextOf rs fr' A' (k + 1))) (hh : isHeavy P r.o.op = false) (ht : base + k < top4) :
    G P rs fr' A' base (k + 1) = G P rs fr' A' base k := by
  funext id
  have hk : (nextOf rs fr' A' k).2 = r.A := by simp [nextOf, hr]
  unfold G
  rw [hk]
  cases hl : lays P r with
  | false =>
    rw [step_light hs hh hl]
    by_cases h1 : base + (k + 1) ≤ id
    · rw [if_pos h1, if_pos (by omega)]
    · rw [if_neg h1]
      by_cases h2 : base + k ≤ id
      · have e : id = base + k := by omega
        subst e
        rw [if_pos h2, layAt_not hr hl]
      · rw [if_neg h2]
  | true =>
    obtain ⟨vf, _, _, h3⟩ := step_lay hs hl
    have hget : ∀ i, (nextOf rs fr' A' (k + 1)).2.get i = if i = base + k then some r.ob else r.A.get i := fun i => by
      rw [h3]
      exact get_put4 (some r.ob) (base + k) i r.A.heap ht
    rw [hget]
    by_cases h1 : base + (k + 1) ≤ id
    · rw [if_pos h1, if_neg (show ¬ id = base + k by omega), if_pos (show base + k ≤ id by omega)]
    · rw [if_neg h1]
      by_cases h2 : base + k ≤ id
      · have e : id = base + k := by omega
        subst e
        rw [if_pos rfl, if_pos h2, layAt_get hr hl]
      · rw [if_neg h2, if_neg (show ¬ id = base + k by omega)]
end
end Ev
end Go
namespace Go
namespace Ev
section
variable {P : Program} {E : Env} {ih : Fns} {ops : Array Oper}

theorem put_get {fr fr1 : AFr} {dst : Option Tmp} {v : Value} (h : fr.put dst v = some fr1) (ht : fr.n ≤ top4) :
    fr1.n = fr.n ∧ fr1.defers = fr.defers ∧ ∀ t, fr1.tmps.get t = if dst = some t then some v else fr.tmps.get t := by
  cases dst with
  | none =>
    simp only [AFr.put_none, Option.some.injEq] at h
    subst h
    exact ⟨rfl, rfl, fun t => by simp⟩
  | some d =>
    simp only [AFr.put_some] at h
    obtain ⟨h1, h⟩ := bif_some' h
    have h1 := blt_true h1
    simp only [Option.some.injEq] at h
    subst h
    refine ⟨rfl, rfl, fun t => ?_⟩
    simp only [get_put4 (some v) d t fr.tmps (by omega), Option.some.injEq]
    by_cases e : t = d
    · rw [if_pos e, if_pos e.symm]
    · rw [if_neg e, if_neg (fun e' => e e'.symm)]

/-- The last writer of a temporary, among the operations of a set. -/
def LastW (rs : List TRec) (S : Nat → Prop) (t : Tmp) (i : Nat) (r : TRec) : Prop :=
  rs[i]? = some r ∧ S i ∧ r.o.dst = some t ∧ ∀ i' r', rs[i']? = some r' → S i' → i < i' → r'.o.dst ≠ some t
def NoW (rs : List TRec) (S : Nat → Prop) (t : Tmp) : Prop := ∀ i r, rs[i]? = some r → S i → r.o.dst ≠ some t

theorem full_tmps {fr fr' : AFr} {A' : AW} {rs : List TRec} {base : Nat} (h0 : (nextOf rs fr' A' 0).1 = fr) (ht : fr.n ≤ top4)
    (hs : ∀ (k : Nat) (r : TRec), rs[k]? = some r → StepR P E ih ops r (base + k) (nextOf rs fr' A' (k + 1))) : ∀ k, k ≤ rs.length →
    (nextOf rs fr' A' k).1.n = fr.n ∧ (nextOf rs fr' A' k).1.defers = fr.defers ∧
    ∀ t, (∃ i r, LastW rs (· < k) t i r ∧ (nextOf rs fr' A' k).1.tmps.get t = some r.v) ∨ (NoW rs (· < k) t ∧ (nextOf rs fr' A' k).1.tmps.get t = fr.tmps.get t)
  | 0, _ => by rw [h0]; exact ⟨rfl, rfl, fun t => .inr ⟨fun i r _ h => absurd h (Nat.not_lt_zero _), rfl⟩⟩
  | k + 1, hk => by
    obtain ⟨h1, h2, h3⟩ := full_tmps h0 ht hs k (by omega)
    obtain ⟨r, hr⟩ : ∃ r, rs[k]? = some r := ⟨rs[k]'(by omega), by simp⟩
    have hst := hs k r hr
    have hf : (nextOf rs fr' A' k).1 = r.full := by simp [nextOf, hr]
    rw [hf] at h1 h2 h3
    obtain ⟨h4, h5, h6⟩ := put_get hst.put (by rw [h1]; exact ht)
    refine ⟨h4.trans h1, h5.trans h2, fun t => ?_⟩
    rw [h6]
    by_cases hd : r.o.dst = some t
    · rw [if_pos hd]
      exact .inl ⟨k, r, ⟨hr, Nat.lt_succ_self k, hd, fun i' r' _ h7 h8 => by omega⟩, rfl⟩
    · rw [if_neg hd]
      rcases h3 t with ⟨i, r1, ⟨g1, g2, g3, g4⟩, g5⟩ | ⟨g1, g2⟩
      · refine .inl ⟨i, r1, ⟨g1, Nat.lt_succ_of_lt g2, g3, fun i' r' hi' hlt hi => ?_⟩, g5⟩
        by_cases e : i' = k
        · subst e
          rw [hr] at hi'
          simp only [Option.some.injEq] at hi'
          subst hi'
          exact hd
        · exact g4 i' r' hi' (by omega) hi
      · refine .inr ⟨fun i r1 hi hlt => ?_, g2⟩
        by_cases e : i = k
        · subst e
          rw [hr] at hi
          simp only [Option.some.injEq] at hi
          subst hi
          exact hd
        · exact g1 i r1 hi (by omega)

/-- The temporaries, when the operations of a set have been carried out. -/
def TI (m : Mp) (rs : List TRec) (fr : AFr) (S : Nat → Prop) (a : Act) : Prop :=
  ∀ t, (∃ i r, LastW rs S t i r ∧ VR m r.v (a.tmps.getD t undef)) ∨ (NoW rs S t ∧ VR m ((fr.tmps.get t).getD undef) (a.tmps.getD t undef))
theorem TI.mono {m m' : Mp} (h : m.le m') {rs : List TRec} {fr : AFr} {S : Nat → Prop} {a : Act} (ht : TI m rs fr S a) : TI m' rs fr S a := fun t =>
  (ht t).imp (fun ⟨i, r, h1, h2⟩ => ⟨i, r, h1, h2.mono h⟩) (fun ⟨h1, h2⟩ => ⟨h1, h2.mono h⟩)

/-- What an operation looks at is what it was told in the order of the text. -/
theorem TI.look {m : Mp} {rs : List TRec} {fr : AFr} {S : Nat → Prop} {a : Act} (ht : TI m rs fr S a) {k : Nat} {F : AFr} {t : Tmp}
    (hF : (∃ i r, LastW rs (· < k) t i r ∧ F.tmps.get t = some r.v) ∨ (NoW rs (· < k) t ∧ F.tmps.get t = fr.tmps.get t))
    (hlo : ∀ i r, rs[i]? = some r → i < k → r.o.dst = some t → S i) (hhi : ∀ i r, rs[i]? = some r → S i → ¬ i < k → r.o.dst ≠ some t) :
    VR m ((F.tmps.get t).getD undef) (a.tmps.getD t undef) := by
  rcases hF with ⟨i, r, ⟨g1, g2, g3, g4⟩, g5⟩ | ⟨g1, g2⟩
  · rw [g5]
    have hSi := hlo i r g1 g2 g3
    rcases ht t with ⟨j, r', ⟨q1, q2, q3, q4⟩, q5⟩ | ⟨q1, q2⟩
    · have hjk : j < k := Classical.byContradiction fun hh => hhi j r' q1 q2 hh q3
      have hij : i = j := by
        rcases Nat.lt_trichotomy i j with hlt | heq | hgt
        · exact absurd q3 (g4 j r' q1 hjk hlt)
        · exact heq
        · exact absurd g3 (q4 i r g1 hSi hgt)
      subst hij
      rw [g1] at q1
      simp only [Option.some.injEq] at q1
      subst q1
      exact q5
    · exact absurd g3 (q1 i r g1 hSi)
  · rw [g2]
    rcases ht t with ⟨j, r', ⟨q1, q2, q3, q4⟩, q5⟩ | ⟨q1, q2⟩
    · have hjk : j < k := Classical.byContradiction fun hh => hhi j r' q1 q2 hh q3
      exact absurd q3 (g1 j r' q1 hjk)
    · exact q2

/-- One operation more. -/
theorem TI.step {m : Mp} {rs : List TRec} {fr : AFr} {S : Nat → Prop} {a : Act} (ht : TI m rs fr S a) {k : Nat} {r : TRec} {v' : Value} (hr : rs[k]? = some r) (hS : ¬ S k) (hv : VR m r.v v')
    (hd : ∀ d, r.o.dst = some d → d < a.tmps.size) (hhi : ∀ i r' d, rs[i]? = some r' → S i → k < i → r.o.dst = some d → r'.o.dst ≠ some d) : TI m rs fr (fun i => S i ∨ i = k) (a.put r.o.dst v') := by
  intro t
  by_cases h : r.o.dst = some t
  · refine .inl ⟨k, r, ⟨hr, .inr rfl, h, fun i' r' hi' hs hlt => ?_⟩, ?_⟩
    · rcases hs with hs | hs
      · exact hhi i' r' t hi' hs hlt h
      · omega
    · rw [h]
      have := hd t h
      simp [Act.put, this, hv]
  · have e : (a.put r.o.dst v').tmps.getD t undef = a.tmps.getD t undef := by
      cases hdst : r.o.dst with
      | none => rfl
      | some d =>
        have hne : d ≠ t := fun e => h (by rw [hdst, e])
        simp [Act.put, Array.getElem?_setIfInBounds_ne hne]
    rw [e]
    rcases ht t with ⟨j, r', ⟨q1, q2, q3, q4⟩, q5⟩ | ⟨q1, q2⟩
    · refine .inl ⟨j, r', ⟨q1, .inl q2, q3, fun i' r2 hi' hs hlt => ?_⟩, q5⟩
      rcases hs with hs | hs
      · exact q4 i' r2 hi' hs hlt
      · subst hs
        rw [hr] at hi'
        simp only [Option.some.injEq] at hi'
        subst hi'
        exact h
    · refine .inr ⟨fun i r2 hi hs => ?_, q2⟩
      rcases hs with hs | hs
      · exact q1 i r2 hi hs
      · subst hs
        rw [hr] at hi
        simp only [Option.some.injEq] at hi
        subst hi
        exact h

/-! The mask. -/
open Classical in
theorem maskT_get (fr : AFr) (ht : fr.n ≤ top4) : ∀ (l : List Operand) (T : T4 Value) (t : Tmp), (maskT fr l T).get t = if t < fr.n ∧ Operand.tmp t ∈ l then fr.tmps.get t else T.get t
  | [], T, t => by simp [maskT]
  | x :: l, T, t => by
    simp only [maskT]
    rw [maskT_get fr ht l]
    by_cases h1 : t < fr.n ∧ Operand.tmp t ∈ l
    · rw [if_pos h1, if_pos ⟨h1.1, List.mem_cons_of_mem _ h1.2⟩]
    · rw [if_neg h1]
      cases x with
      | tmp d =>
        simp only
        cases hb : Nat.blt d fr.n with
        | true =>
          have hd := blt_true hb
          simp only [cond_true]
          rw [get_put4 _ d t T (by omega)]
          by_cases e : t = d
          · subst e
            rw [if_pos rfl, if_pos ⟨hd, List.mem_cons_self⟩]
          · rw [if_neg e, if_neg]
            rintro ⟨h2, h3⟩
            rcases List.mem_cons.1 h3 with h3 | h3
            · simp only [Operand.tmp.injEq] at h3; exact e h3
            · exact h1 ⟨h2, h3⟩
        | false =>
          simp only [cond_false]
          rw [if_neg]
          rintro ⟨h2, h3⟩
          rcases List.mem_cons.1 h3 with h3 | h3
          · simp only [Operand.tmp.injEq] at h3
            subst h3
            have : Nat.blt t fr.n = true := Nat.ble_eq_true_of_le h2
            rw [this] at hb
            cases hb
          · exact h1 ⟨h2, h3⟩
      | _ =>
        simp only
        rw [if_neg]
        rintro ⟨h2, h3⟩
        rcases List.mem_cons.1 h3 with h3 | h3
        · cases h3
        · exact h1 ⟨h2, h3⟩

def lookedAt (o : Oper) (i : Nat) : Bool := o.op.operands.toList.any fun | .tmp d => Nat.beq d i | _ => false
theorem lookedAt_iff {o : Oper} {i : Nat} : lookedAt o i = true ↔ Operand.tmp i ∈ o.op.operands.toList := by
  unfold lookedAt
  rw [List.any_eq_true]
  constructor
  · rintro ⟨x, hx, h⟩
    cases x with
    | tmp d => have := beq_true h; subst this; exact hx
    | _ => cases h
  · intro h
    exact ⟨_, h, Nat.beq_refl i⟩
/-- The machine's temporaries, masked alike. -/
def maskA (a : Act) (o : Oper) : Act := { a with tmps := a.tmps.mapIdx fun i v => if lookedAt o i then v else undef }

theorem maskA_get (a : Act) (o : Oper) (i : Nat) : (maskA a o).tmps.getD i undef = if lookedAt o i then a.tmps.getD i undef else undef := by
  unfold maskA
  simp only [Array.getD_eq_getD_getElem?, Array.getElem?_mapIdx]
  cases h : a.tmps[i]? <;> simp
theorem maskA_eval (a : Act) (o : Oper) (x : Operand) (hx : x ∈ o.op.operands) : a.eval x = (maskA a o).eval x := by
  cases x with
  | tmp t =>
    have h : lookedAt o t = true := lookedAt_iff.2 (by simpa using hx)
    change a.tmps.getD t undef = (maskA a o).tmps.getD t undef
    rw [maskA_get, h]
    rfl
  | _ => rfl

theorem mask_fr {m : Mp} {F : AFr} {a : Act} {o : Oper} (hs : a.tmps.size = F.n) (ht : F.n ≤ top4) (h : ∀ t, Operand.tmp t ∈ o.op.operands.toList → VR m ((F.tmps.get t).getD undef) (a.tmps.getD t undef)) :
    FR m (maskFr F o) (maskA a o) := by
  refine ⟨by simp [maskA, maskFr, hs], ht, fun i => ?_⟩
  have hg := maskT_get F ht o.op.operands.toList .e i
  change VR m (((maskT F o.op.operands.toList .e).get i).getD undef) _
  rw [hg, maskA_get]
  cases hl : lookedAt o i with
  | true =>
    have hm := lookedAt_iff.1 hl
    by_cases hi : i < F.n
    · rw [if_pos ⟨hi, hm⟩, if_pos rfl]
      exact h i hm
    · rw [if_neg (fun hh => hi hh.1), if_pos rfl]
      have : a.tmps.getD i undef = undef := by
        rw [Array.getD_eq_getD_getElem?, Array.getElem?_eq_none (by omega)]
        rfl
      rw [this]
      exact vr_undef m
  | false =>
    rw [if_neg (fun hh => by have := lookedAt_iff.2 hh.2; rw [hl] at this; cases this)]
    exact vr_undef m
end
end Ev
end Go
namespace Go
namespace Ev
section
variable {P : Program} {E : Env} {ih : Fns} {ops : Array Oper}

theorem countB_le {α : Type} {f g : α → Bool} : ∀ {l : List α}, (∀ x ∈ l, f x = true → g x = true) → countB (l.map f) ≤ countB (l.map g)
  | [], _ => Nat.le_refl _
  | x :: l, h => by
    have h1 := countB_le (l := l) fun y hy => h y (List.mem_cons_of_mem _ hy)
    have h2 := h x List.mem_cons_self
    simp only [List.map_cons, countB]
    cases hf : f x with
    | true => rw [h2 hf]; simp only [cond_true]; omega
    | false => cases g x <;> simp <;> omega

theorem countB_congr {α : Type} {f g : α → Bool} {l : List α} (h : ∀ x ∈ l, f x = g x) : countB (l.map f) = countB (l.map g) := by
  rw [List.map_congr_left h]

/-- How many of the first operations may turn the world. -/
def hcnt (I : List RI) (k : Nat) : Nat := countB ((I.take k).map (·.heavy))

theorem hcnt_succ {I : List RI} {k : Nat} {x : RI} (h : I[k]? = some x) : hcnt I (k + 1) = hcnt I k + (if x.heavy then 1 else 0) := by
  unfold hcnt
  induction I generalizing k with
  | nil => simp at h
  | cons y I ih =>
    cases k with
    | zero =>
      simp only [List.getElem?_cons_zero, Option.some.injEq] at h
      subst h
      cases hy : y.heavy <;> simp [countB, hy]
    | succ k =>
      simp only [List.getElem?_cons_succ] at h
      have := ih h
      simp only [List.take_succ_cons, List.map_cons, countB] at this ⊢
      rw [this]
      cases y.heavy <;> simp <;> omega

theorem mem_hvOf : ∀ {I : List RI} {i : Nat} {h : Nat × Nat}, h ∈ hvOf I i → ∃ k x, I[k]? = some x ∧ x.heavy = true ∧ h = (i + k, x.bef)
  | [], _, _, hm => by simp [hvOf] at hm
  | x :: I, i, h, hm => by
    simp only [hvOf] at hm
    have tl : h ∈ hvOf I (Nat.succ i) → ∃ k y, (x :: I)[k]? = some y ∧ y.heavy = true ∧ h = (i + k, y.bef) := fun hm => by
      obtain ⟨k, y, h1, h2, h3⟩ := mem_hvOf hm
      exact ⟨k + 1, y, by simpa using h1, h2, by rw [h3, show Nat.succ i + k = i + (k + 1) by omega]⟩
    cases hx : x.heavy with
    | true =>
      rw [hx] at hm
      simp only [cond_true, List.mem_cons] at hm
      rcases hm with rfl | hm
      · exact ⟨0, x, rfl, hx, rfl⟩
      · exact tl hm
    | false =>
      rw [hx] at hm
      exact tl hm

theorem count_lt : ∀ (I : List RI) (i k : Nat), countB ((hvOf I i).map fun h => decide (h.1 < i + k)) = hcnt I k
  | [], i, k => by simp [hvOf, countB, hcnt]
  | x :: I, i, 0 => by
    have : countB ((hvOf (x :: I) i).map fun h => decide (h.1 < i + 0)) ≤ countB ((hvOf (x :: I) i).map fun _ => false) := countB_le fun h hm hlt => by
      obtain ⟨k, y, _, _, h3⟩ := mem_hvOf hm
      rw [h3] at hlt
      simp at hlt
      omega
    have h0 : ∀ l : List (Nat × Nat), countB (l.map fun _ => false) = 0 := fun l => by induction l with | nil => rfl | cons _ _ ih => simpa [countB] using ih
    rw [h0] at this
    simp only [hcnt, List.take_zero, List.map_nil, countB]
    omega
  | x :: I, i, k + 1 => by
    have h1 := count_lt I (Nat.succ i) k
    have e : (fun h : Nat × Nat => decide (h.1 < Nat.succ i + k)) = fun h : Nat × Nat => decide (h.1 < i + (k + 1)) := by
      funext h
      congr 1
      rw [show Nat.succ i + k = i + (k + 1) by omega]
    rw [e] at h1
    have h2 : hcnt (x :: I) (k + 1) = (if x.heavy then 1 else 0) + hcnt I k := by
      simp only [hcnt, List.take_succ_cons, List.map_cons, countB]
      cases x.heavy <;> simp <;> omega
    rw [h2, ← h1]
    simp only [hvOf]
    cases hx : x.heavy with
    | true =>
      have : i < i + (k + 1) := by omega
      simp only [cond_true, List.map_cons, countB, this, decide_true, if_true]
      omega
    | false => simp

/-- The stages. -/
theorem stages_at : ∀ {rs : List TRec} {I : List RI} {A' : AW}, rs.length = I.length → (∀ (k : Nat) (r : TRec) (x : RI), rs[k]? = some r → I[k]? = some x → x.heavy = true → (stagesOf rs I A')[hcnt I k]? = some r.A) ∧
    (stagesOf rs I A')[hcnt I I.length]? = some A'
  | [], [], A', _ => ⟨fun k r x h => by simp at h, rfl⟩
  | [], _ :: _, _, h => by simp at h
  | _ :: _, [], _, h => by simp at h
  | r0 :: rs, x0 :: I, A', h => by
    obtain ⟨h1, h2⟩ := stages_at (rs := rs) (I := I) (A' := A') (by simpa using h)
    have hc : ∀ k, hcnt (x0 :: I) (k + 1) = (if x0.heavy then 1 else 0) + hcnt I k := fun k => by
      simp only [hcnt, List.take_succ_cons, List.map_cons, countB]
      cases x0.heavy <;> simp <;> omega
    have hst : ∀ j, (stagesOf (r0 :: rs) (x0 :: I) A')[(if x0.heavy then 1 else 0) + j]? = (stagesOf rs I A')[j]? := fun j => by
      simp only [stagesOf]
      cases x0.heavy with
      | true =>
        simp only [cond_true, if_true, Nat.add_comm 1 j]
        rfl
      | false => simp
    refine ⟨fun k r x hr hx hh => ?_, ?_⟩
    · cases k with
      | zero =>
        simp only [List.getElem?_cons_zero, Option.some.injEq] at hr hx
        subst hr
        subst hx
        simp [hcnt, countB, stagesOf, hh]
      | succ k =>
        simp only [List.getElem?_cons_succ] at hr hx
        rw [hc, hst]
        exact h1 k r x hr hx hh
    · rw [List.length_cons, hc, hst]
      exact h2

theorem checkAll_at {st : List AW} {hv : List (Nat × Nat)} : ∀ {rs : List TRec} {I : List RI} {i id c : Nat}, checkAll P st hv rs I i id c = true → ∀ (k : Nat) (r : TRec) (x : RI), rs[k]? = some r → I[k]? = some x → needs P r = true →
    stageOK P r (id + k) (loOf x.bef hv) (hiOf (i + k) hv) (c + hcnt I k) st 0 = true
  | [], _, _, _, _, _, k, r, x, h, _, _ => by simp at h
  | _ :: _, [], _, _, _, h, k, r, x, _, hx, _ => by simp at hx
  | r0 :: rs, x0 :: I, i, id, c, h, k, r, x, hr, hx, hn => by
    simp only [checkAll] at h
    obtain ⟨h1, h2⟩ := and_true h
    cases k with
    | zero =>
      simp only [List.getElem?_cons_zero, Option.some.injEq] at hr hx
      subst hr
      subst hx
      rw [hn] at h1
      simpa [hcnt, countB] using h1
    | succ k =>
      simp only [List.getElem?_cons_succ] at hr hx
      have := checkAll_at h2 k r x hr hx hn
      have hc : hcnt (x0 :: I) (k + 1) = (if x0.heavy then 1 else 0) + hcnt I k := by
        simp only [hcnt, List.take_succ_cons, List.map_cons, countB]
        cases x0.heavy <;> simp <;> omega
      rw [hc, show id + (k + 1) = Nat.succ id + k by omega, show i + (k + 1) = Nat.succ i + k by omega]
      cases hx0 : x0.heavy with
      | true =>
        rw [hx0] at this
        simp only [cond_true] at this
        simp only [if_true]
        rw [show c + (1 + hcnt I k) = Nat.succ c + hcnt I k by omega]
        exact this
      | false =>
        rw [hx0] at this
        simp only [cond_false] at this
        simp only [Bool.false_eq_true, if_false, Nat.zero_add]
        exact this

theorem stageOK_at {r : TRec} {id lo hi c : Nat} : ∀ {st : List AW} {j0 : Nat}, stageOK P r id lo hi c st j0 = true → ∀ (j : Nat) (B : AW), st[j]? = some B →
    (bif Nat.beq (kind P r.o.op) 1 then
       (bif Nat.ble lo (j0 + j) && Nat.ble (j0 + j) hi then (match evR P r.fr B r.o.type r.o.op with | some v => vEq v r.v | none => false) else true)
     else
       (bif Nat.blt (j0 + j) c then (match B.get id with | none => true | some _ => false)
        else bif Nat.ble (j0 + j) hi then (match B.get id with | some ob => obEq ob r.ob | none => false) else true)) = true
  | [], _, _, j, B, hj => by simp at hj
  | B0 :: st, j0, h, j, B, hj => by
    simp only [stageOK] at h
    obtain ⟨h1, h2⟩ := and_true h
    cases j with
    | zero =>
      simp only [List.getElem?_cons_zero, Option.some.injEq] at hj
      subst hj
      exact h1
    | succ j =>
      simp only [List.getElem?_cons_succ] at hj
      have := stageOK_at h2 j B hj
      rw [show Nat.succ j0 + j = j0 + (j + 1) by omega] at this
      exact this
end
end Ev
end Go
namespace Go
namespace Ev
section
variable {P : Program} {E : Env} {ih : Fns} {ops : Array Oper} {m m' : Mp} {A A1 : AW} {w w' : World}

/-- 'HR' of blocks told by a function. -/
structure HRg (P : Program) (m : Mp) (g : Nat → Option AObj) (N : Nat) (w : World) : Prop where
  top : N ≤ top4
  live : ∀ i o, g i = some o → i < N
  dom : ∀ i l, m i = some l → i < N
  inj : ∀ i j oi oj li lj, g i = some oi → g j = some oj → m i = some li → m j = some lj → li.blk = lj.blk → i = j
  obj : ∀ i o l, g i = some o → m i = some l → ObjR P m w.heap o l

def OwnedG (g : Nat → Option AObj) (m : Mp) (r : Nat) : Prop := ∃ i o l, g i = some o ∧ m i = some l ∧ l.blk = r

theorem HRg.sub {g : Nat → Option AObj} {N : Nat} (h : HRg P m g N w) (hN : A.next = N) (hs : ∀ i o, A.get i = some o → g i = some o) : HR P m A w :=
  ⟨by rw [hN]; exact h.top, fun i o hi => by rw [hN]; exact h.live i o (hs i o hi), fun i l hi => by rw [hN]; exact h.dom i l hi,
    fun i j oi oj li lj hi hj => h.inj i j oi oj li lj (hs i oi hi) (hs j oj hj), fun i o l hi hm => h.obj i o l (hs i o hi) hm⟩
theorem HR.toG (h : HR P m A w) : HRg P m A.get A.next w := ⟨h.top, h.live, h.dom, h.inj, h.obj⟩
theorem HRg.world {g : Nat → Option AObj} {N : Nat} (h : HRg P m g N w) (hw : w'.heap = w.heap) : HRg P m g N w' :=
  ⟨h.top, h.live, h.dom, h.inj, fun i o l hi hm => (h.obj i o l hi hm).mono (Mp.le_refl m) (by rw [hw])⟩

/-- A block is laid at the number that was kept for it. -/
theorem hrg_lay {g : Nat → Option AObj} {N id : Nat} {ob : AObj} {vf : Nat → Value} {v' : Value} (h : HRg P m g N w) (hid : id < N) (hm : m id = none) (hg : g id = some ob) (hl : Lays P m w w' ob vf v') :
    ∃ m', m.le m' ∧ HRg P m' g N w' ∧ VR m' (vf id) v' ∧ (∀ i, i ≠ id → m' i = m i) ∧ (∀ r, r < w.heap.size → w'.heap[r]? = w.heap[r]?) ∧ (∀ r, r < w.heap.size → ¬ OwnedG g m r → ¬ OwnedG g m' r) ∧ w.heap.size ≤ w'.heap.size := by
  obtain ⟨obj, hheap⟩ := hl.heap
  obtain ⟨loc, hblk, hrel⟩ := hl.rel
  have hle := Mp.le_put hm loc
  obtain ⟨ho, hv⟩ := hrel id (m.put id loc) hle (Mp.put_same _ _ _)
  have hold : ∀ j, j < w.heap.size → w'.heap[j]? = w.heap[j]? := fun j hj => by rw [hheap]; exact push_get hj
  have old : ∀ {i : Nat} {l : Loc}, m.put id loc i = some l → (i = id ∧ l = loc) ∨ (i ≠ id ∧ m i = some l) := fun {i l} hi => by
    unfold Mp.put at hi
    split at hi
    · rename_i e
      simp only [Option.some.injEq] at hi
      exact .inl ⟨e, hi.symm⟩
    · rename_i e
      exact .inr ⟨e, hi⟩
  have hlt : ∀ {i o l}, g i = some o → m i = some l → l.blk < w.heap.size := fun hi hmi => (h.obj _ _ _ hi hmi).lt
  refine ⟨m.put id loc, hle, ⟨h.top, h.live, fun i l hi => ?_, fun i j oi oj li lj hi hj hmi hmj hb => ?_, fun i o l hi hmi => ?_⟩, hv, fun i hi => by simp [Mp.put, hi], hold, fun r hr hno => ?_, by rw [hheap]; simp⟩
  · rcases old hi with ⟨e, _⟩ | ⟨_, e⟩
    · rw [e]; exact hid
    · exact h.dom i l e
  · rcases old hmi with ⟨e1, e2⟩ | ⟨e1, e2⟩ <;> rcases old hmj with ⟨f1, f2⟩ | ⟨f1, f2⟩
    · rw [e1, f1]
    · have := hlt hj f2; rw [← hb, e2, hblk] at this; omega
    · have := hlt hi e2; rw [hb, f2, hblk] at this; omega
    · exact h.inj i j oi oj li lj hi hj e2 f2 hb
  · rcases old hmi with ⟨e1, e2⟩ | ⟨e1, e2⟩
    · rw [e1, hg] at hi
      simp only [Option.some.injEq] at hi
      subst hi
      subst e2
      exact ho
    · exact (h.obj i o l hi e2).mono hle (hold _ (hlt hi e2))
  · rintro ⟨i, o, l, hi, hmi, hb⟩
    rcases old hmi with ⟨e1, e2⟩ | ⟨e1, e2⟩
    · rw [e2, hblk] at hb; omega
    · exact hno ⟨i, o, l, hi, e2, hb⟩

open Classical in
/-- An operation that turns the world, under blocks that it does not know. -/
theorem hrg_heavy {g g1 : Nat → Option AObj} {N : Nat} {R : Nat → Prop} (h : HRg P m g N w) (hA : A.next = N) (hsub : ∀ i o, A.get i = some o → g i = some o)
    (hR : ∀ i, R i → i < N ∧ A.get i = none) (h1 : HR P m' A1 w') (hE : Ext A m w A1 m' w') (hg1 : ∀ i, g1 i = if R i then g i else A1.get i) :
    HRg P m' g1 A1.next w' ∧ ∀ r, r < w.heap.size → ¬ OwnedG g m r → w'.heap[r]? = w.heap[r]? ∧ ¬ OwnedG g1 m' r := by
  have back : ∀ {i l}, R i → m' i = some l → m i = some l := fun {i l} hi hm' => by
    cases hm : m i with
    | none => have := hE.new i l hm hm'; have := (hR i hi).1; omega
    | some l0 => have := hE.le i l0 hm; rw [hm'] at this; exact this.symm ▸ rfl
  have no : ∀ {i o l}, R i → g i = some o → m i = some l → ¬ Owned A m l.blk := fun {i o l} hi hg hm => by
    rintro ⟨j, oj, lj, hj, hmj, hb⟩
    have := h.inj j i oj o lj l (hsub j oj hj) hg hmj hm hb
    subst this
    rw [(hR _ hi).2] at hj
    cases hj
  have fr : ∀ {i o l}, R i → g i = some o → m i = some l → w'.heap[l.blk]? = w.heap[l.blk]? ∧ ¬ Owned A1 m' l.blk := fun hi hg hm =>
    hE.frame _ (h.obj _ _ _ hg hm).lt (no hi hg hm)
  refine ⟨⟨h1.top, fun i o hi => ?_, h1.dom, fun i j oi oj li lj hi hj hmi hmj hb => ?_, fun i o l hi hm => ?_⟩, fun r hr hno => ?_⟩
  · rw [hg1] at hi
    by_cases ri : R i
    · have := (hR i ri).1; have := hE.next; omega
    · rw [if_neg ri] at hi
      exact h1.live i o hi
  · rw [hg1] at hi hj
    by_cases ri : R i <;> by_cases rj : R j
    · rw [if_pos ri] at hi
      rw [if_pos rj] at hj
      exact h.inj i j oi oj li lj hi hj (back ri hmi) (back rj hmj) hb
    · rw [if_pos ri] at hi
      rw [if_neg rj] at hj
      exact absurd ⟨j, oj, lj, hj, hmj, hb.symm⟩ (fr ri hi (back ri hmi)).2
    · rw [if_neg ri] at hi
      rw [if_pos rj] at hj
      exact absurd ⟨i, oi, li, hi, hmi, hb⟩ (fr rj hj (back rj hmj)).2
    · rw [if_neg ri] at hi
      rw [if_neg rj] at hj
      exact h1.inj i j oi oj li lj hi hj hmi hmj hb
  · rw [hg1] at hi
    by_cases ri : R i
    · rw [if_pos ri] at hi
      have hm0 := back ri hm
      exact (h.obj i o l hi hm0).mono hE.le (fr ri hi hm0).1
    · rw [if_neg ri] at hi
      exact h1.obj i o l hi hm
  · have hnoA : ¬ Owned A m r := fun ⟨i, o, l, hi, hm, hb⟩ => hno ⟨i, o, l, hsub i o hi, hm, hb⟩
    obtain ⟨q1, q2⟩ := hE.frame r hr hnoA
    refine ⟨q1, ?_⟩
    rintro ⟨i, o, l, hi, hm, hb⟩
    rw [hg1] at hi
    by_cases ri : R i
    · rw [if_pos ri] at hi
      exact hno ⟨i, o, l, hi, back ri hm, hb⟩
    · rw [if_neg ri] at hi
      exact q2 ⟨i, o, l, hi, hm, hb⟩
end
end Ev
end Go
namespace Go
namespace Ev
section
variable {P : Program} {E : Env} {ih : Fns} {ops : Array Oper} {I : List RI} {rs : List TRec} {fr fr' : AFr} {A A' : AW}

/-- A drawn region that has been looked through. -/
structure DC (P : Program) (E : Env) (ih : Fns) (ops : Array Oper) (I : List RI) (rs : List TRec) (fr fr' : AFr) (A A' : AW) : Prop where
  ri : RIok P ops I
  len : rs.length = ops.size
  op : ∀ (k : Nat) (r : TRec), rs[k]? = some r → ops[k]? = some r.o
  start : nextOf rs fr' A' 0 = (fr, ⟨A.heap, A.next + ops.size⟩)
  step : ∀ (k : Nat) (r : TRec), rs[k]? = some r → StepR P E ih ops r (A.next + k) (nextOf rs fr' A' (k + 1))
  chk : checkAll P (stagesOf rs I A') (hvOf I 0) rs I 0 A.next 0 = true
  top : A.next + ops.size ≤ top4

theorem evDraw_dc {fr' : AFr} {A' : AW} (h : evDraw P E ih ops fr A = some (fr', A')) : ∃ I rs, DC P E ih ops I rs fr fr' A A' := by
  unfold evDraw at h
  split at h
  · cases h
  · rename_i I hI
    obtain ⟨ht, h⟩ := bif_some' h
    split at h
    · cases h
    · rename_i rs fr1 A1 htr
      obtain ⟨hc, h⟩ := bif_some' h
      simp only [Option.some.injEq, Prod.mk.injEq] at h
      obtain ⟨rfl, rfl⟩ := h
      obtain ⟨h1, h2, h3⟩ := trace_ok htr
      refine ⟨I, rs, regionInfo_ok hI, ?_, fun k r hr => ?_, h2, h3, hc, ble_true ht⟩
      · have := congrArg List.length h1
        simpa using this
      · have : (rs.map (·.o))[k]? = some r.o := by simp [hr]
        rw [h1] at this
        simpa using this

variable (dc : DC P E ih ops I rs fr fr' A A')
include dc

theorem DC.rec_at {k : Nat} (hk : k < ops.size) : ∃ r x, rs[k]? = some r ∧ I[k]? = some x ∧ ops[k]? = some r.o ∧ x.heavy = isHeavy P r.o.op ∧ x.tm = (r.o.dst, looksL ops r.o) := by
  obtain ⟨r, hr⟩ : ∃ r, rs[k]? = some r := ⟨rs[k]'(by rw [dc.len]; exact hk), by simp⟩
  have ho := dc.op k r hr
  obtain ⟨x, h1, h2, h3⟩ := dc.ri.at' k r.o ho
  exact ⟨r, x, hr, h1, ho, h2, h3⟩

/-- A place at which an operation may turn the world, or the end. -/
def Turn (I : List RI) (n p : Nat) : Prop := p = n ∨ ∃ x, I[p]? = some x ∧ x.heavy = true

theorem DC.adv : ∀ (d q : Nat), q + d = ops.size → ∃ p, q ≤ p ∧ p ≤ ops.size ∧ Turn I ops.size p ∧ (∀ h x, q ≤ h → h < p → I[h]? = some x → x.heavy = false) ∧
    G P rs fr' A' A.next p = G P rs fr' A' A.next q ∧ (nextOf rs fr' A' p).2.next = (nextOf rs fr' A' q).2.next
  | 0, q, hq => ⟨q, Nat.le_refl _, by omega, .inl (by omega), fun h x h1 h2 => by omega, rfl, rfl⟩
  | d + 1, q, hq => by
    obtain ⟨r, x, hr, hx, ho, hh, _⟩ := dc.rec_at (k := q) (by omega)
    cases hv : x.heavy with
    | true => exact ⟨q, Nat.le_refl _, by omega, .inr ⟨x, hx, hv⟩, fun h x h1 h2 => by omega, rfl, rfl⟩
    | false =>
      obtain ⟨p, h1, h2, h3, h4, h5, h6⟩ := DC.adv d (q + 1) (by omega)
      have hl : isHeavy P r.o.op = false := by rw [← hh]; exact hv
      have hg := G_light (A' := A') (fr' := fr') hr (dc.step q r hr) hl (by have := dc.top; omega)
      have hn : (nextOf rs fr' A' (q + 1)).2.next = (nextOf rs fr' A' q).2.next := by
        have e : (nextOf rs fr' A' q).2 = r.A := by simp [nextOf, hr]
        rw [e]
        cases hl2 : lays P r with
        | false => rw [step_light (dc.step q r hr) hl hl2]
        | true =>
          obtain ⟨vf, _, _, h7⟩ := step_lay (dc.step q r hr) hl2
          rw [h7]
      refine ⟨p, by omega, h2, h3, fun h y h7 h8 h9 => ?_, h5.trans hg, h6.trans hn⟩
      by_cases e : h = q
      · subst e
        rw [hx] at h9
        simp only [Option.some.injEq] at h9
        subst h9
        exact hv
      · exact h4 h y (by omega) h8 h9

theorem DC.stage {p : Nat} (hp : Turn I ops.size p) (hle : p ≤ ops.size) : (stagesOf rs I A')[hcnt I p]? = some (nextOf rs fr' A' p).2 := by
  obtain ⟨h1, h2⟩ := stages_at (rs := rs) (I := I) (A' := A') (by rw [dc.len, dc.ri.len])
  rcases hp with rfl | ⟨x, hx, hh⟩
  · have : nextOf rs fr' A' ops.size = (fr', A') := by
      unfold nextOf
      rw [List.getElem?_eq_none (by rw [dc.len]; exact Nat.le_refl _)]
    rw [this]
    rw [dc.ri.len] at h2
    exact h2
  · have hlt : p < ops.size := by
      have := (List.getElem?_eq_some_iff.1 hx).1
      rw [dc.ri.len] at this
      exact this
    obtain ⟨r, x', hr, hx', _⟩ := dc.rec_at hlt
    have := h1 p r x hr hx hh
    rw [this]
    simp [nextOf, hr]
end
end Ev
end Go
namespace Go
namespace Ev
section
variable {P : Program} {E : Env} {ih : Fns} {ops : Array Oper} {I : List RI} {rs : List TRec} {fr fr' : AFr} {A A' : AW} {S : Nat → Bool}

/-- The operations carried out: with one, what it stands behind. -/
def Closed (ops : Array Oper) (S : Nat → Bool) : Prop := ∀ (i : Nat) (o : Oper) (e : Edge), S i = true → ops[i]? = some o → e ∈ o.after → Region.binds .any e = true → S e.on = true
def Ready (ops : Array Oper) (S : Nat → Bool) (k : Nat) : Prop := S k = false ∧ ∀ (o : Oper) (e : Edge), ops[k]? = some o → e ∈ o.after → Region.binds .any e = true → S e.on = true

variable (dc : DC P E ih ops I rs fr fr' A A')
include dc

theorem DC.bef_in (hcl : Closed ops S) : ∀ (N k : Nat) (x : RI) (h : Nat), k ≤ N → I[k]? = some x → (∀ (o : Oper) (e : Edge), ops[k]? = some o → e ∈ o.after → Region.binds .any e = true → S e.on = true) → Nat.testBit x.bef h = true → S h = true
  | N, k, x, h, hN, hx, he, hb => by
    have hk : k < ops.size := by
      have := (List.getElem?_eq_some_iff.1 hx).1
      rw [dc.ri.len] at this
      exact this
    obtain ⟨r, x', hr, hx', ho, _, _⟩ := dc.rec_at hk
    obtain ⟨e, h1, h2, h3⟩ := (dc.ri.bef k r.o x h ho hx).1 hb
    have hS := he r.o e ho h1 h2
    have hlt := dc.ri.back k r.o ho e h1 h2
    rcases h3 with rfl | ⟨y, hy, h4⟩
    · exact hS
    · cases N with
      | zero => omega
      | succ N => exact DC.bef_in hcl N e.on y h (by omega) hy (fun o e' ho' he' hb' => hcl e.on o e' hS ho' he' hb') h4

theorem DC.bef_ready (hcl : Closed ops S) {k h : Nat} {x : RI} (hr : Ready ops S k) (hx : I[k]? = some x) (hb : Nat.testBit x.bef h = true) : S h = true :=
  dc.bef_in hcl k k x h (Nat.le_refl _) hx hr.2 hb
theorem DC.bef_done (hcl : Closed ops S) {k h : Nat} {x : RI} (hk : S k = true) (hx : I[k]? = some x) (hb : Nat.testBit x.bef h = true) : S h = true :=
  dc.bef_in hcl k k x h (Nat.le_refl _) hx (fun o e ho he hbd => hcl k o e hk ho he hbd) hb

/-- How far the operations that may turn the world have been carried out. -/
structure Pos (I : List RI) (n : Nat) (S : Nat → Bool) (p : Nat) : Prop where
  le : p ≤ n
  turn : Turn I n p
  iff : ∀ (h : Nat) (x : RI), I[h]? = some x → x.heavy = true → S h = decide (h < p)

omit dc in
theorem Pos.count {n p : Nat} (hp : Pos I n S p) : countB ((hvOf I 0).map fun h => S h.1) = hcnt I p := by
  rw [← count_lt I 0 p]
  refine countB_congr fun h hm => ?_
  obtain ⟨k, x, h1, h2, h3⟩ := mem_hvOf hm
  rw [h3]
  simp only [Nat.zero_add]
  exact hp.iff k x h1 h2

theorem DC.lo (hcl : Closed ops S) {p k : Nat} {x : RI} (hp : Pos I ops.size S p) (hr : Ready ops S k) (hx : I[k]? = some x) : loOf x.bef (hvOf I 0) ≤ hcnt I p := by
  rw [← hp.count]
  refine countB_le fun h hm hb => ?_
  exact dc.bef_ready hcl hr hx hb
theorem DC.hi (hcl : Closed ops S) {p k : Nat} (hp : Pos I ops.size S p) (hr : Ready ops S k) : hcnt I p ≤ hiOf k (hvOf I 0) := by
  rw [← hp.count]
  refine countB_le fun h hm hb => ?_
  obtain ⟨j, x, h1, h2, h3⟩ := mem_hvOf hm
  rw [h3] at hb ⊢
  simp only [Nat.zero_add] at hb ⊢
  cases hbit : Nat.testBit x.bef k with
  | false => rfl
  | true =>
    have := dc.bef_done hcl hb h1 hbit
    rw [hr.1] at this
    cases this

/-- What an operation that turns the world finds: it is its turn. -/
theorem DC.turn_is (hcl : Closed ops S) {p k : Nat} {x : RI} (hp : Pos I ops.size S p) (hr : Ready ops S k) (hx : I[k]? = some x) (hh : x.heavy = true) : p = k := by
  have h1 := hp.iff k x hx hh
  rw [hr.1] at h1
  have hpk : p ≤ k := by
    have : ¬ k < p := fun h => by rw [decide_eq_true h] at h1; cases h1
    omega
  rcases hp.turn with h2 | ⟨y, hy, hyh⟩
  · have := (List.getElem?_eq_some_iff.1 hx).1
    rw [dc.ri.len] at this
    omega
  · rcases Nat.lt_or_ge p k with hlt | hge
    · rcases dc.ri.pair p k y x hlt hy hx with h3 | ⟨_, h3⟩
      · have := dc.bef_ready hcl hr hx h3
        rw [hp.iff p y hy hyh] at this
        simp at this
      · exact absurd ⟨hyh, hh⟩ h3
    · omega

omit dc in
theorem apart_fst {x y : Option Tmp × List Tmp} {t : Tmp} (h : apartA x y = true) (hd : x.1 = some t) : t ∉ y.2 ∧ y.1 ≠ some t := by
  unfold apartA at h
  obtain ⟨h1, _⟩ := and_true h
  rw [hd] at h1
  obtain ⟨h2, h3⟩ := and_true h1
  refine ⟨fun hm => ?_, fun e => ?_⟩
  · have : y.2.any (Nat.beq t) = true := List.any_eq_true.2 ⟨t, hm, Nat.beq_refl t⟩
    rw [this] at h2
    cases h2
  · rw [e] at h3
    simp [sameTmp] at h3
omit dc in
theorem apart_snd {x y : Option Tmp × List Tmp} {t : Tmp} (h : apartA x y = true) (hd : y.1 = some t) : t ∉ x.2 := by
  unfold apartA at h
  obtain ⟨_, h1⟩ := and_true h
  rw [hd] at h1
  simp only at h1
  intro hm
  have : x.2.any (Nat.beq t) = true := List.any_eq_true.2 ⟨t, hm, Nat.beq_refl t⟩
  rw [this] at h1
  cases h1

theorem DC.at_rec {k : Nat} {r : TRec} (hr : rs[k]? = some r) : k < ops.size ∧ ∃ x, I[k]? = some x ∧ ops[k]? = some r.o ∧ x.heavy = isHeavy P r.o.op ∧ x.tm = (r.o.dst, looksL ops r.o) := by
  have hk : k < ops.size := by rw [← dc.len]; exact (List.getElem?_eq_some_iff.1 hr).1
  obtain ⟨r', x, hr', hx, ho, hh, htm⟩ := dc.rec_at hk
  rw [hr] at hr'
  simp only [Option.some.injEq] at hr'
  subst hr'
  exact ⟨hk, x, hx, ho, hh, htm⟩

/-- What an operation looks at. -/
theorem DC.looks (hcl : Closed ops S) {m : Mp} {a : Act} {k : Nat} {r : TRec} (hF : fr.n ≤ top4) (hr : rs[k]? = some r) (hrd : Ready ops S k) (ht : TI m rs fr (fun i => S i = true) a) {t : Tmp} (hl : t ∈ looksL ops r.o) :
    VR m ((r.full.tmps.get t).getD undef) (a.tmps.getD t undef) := by
  obtain ⟨hk, x, hx, ho, hh, htm⟩ := dc.at_rec hr
  obtain ⟨_, _, h3⟩ := full_tmps (base := A.next) (by rw [dc.start]) hF dc.step k (by rw [dc.len]; exact Nat.le_of_lt hk)
  have hf : (nextOf rs fr' A' k).1 = r.full := by simp [nextOf, hr]
  rw [hf] at h3
  refine ht.look (h3 t) (fun i r1 hi hlt hd => ?_) (fun i r1 hi hS hnl hd => ?_)
  · obtain ⟨_, y, hy, _, _, hytm⟩ := dc.at_rec hi
    rcases dc.ri.pair i k y x hlt hy hx with h4 | ⟨h4, _⟩
    · exact dc.bef_ready hcl hrd hx h4
    · rw [hytm, htm] at h4
      exact absurd hl (apart_fst h4 hd).1
  · obtain ⟨_, y, hy, _, _, hytm⟩ := dc.at_rec hi
    have hne : i ≠ k := fun e => by subst e; rw [hrd.1] at hS; cases hS
    rcases dc.ri.pair k i x y (by omega) hx hy with h4 | ⟨h4, _⟩
    · have := dc.bef_done hcl hS hy h4
      rw [hrd.1] at this
      cases this
    · rw [hytm, htm] at h4
      exact apart_snd h4 hd hl

/-- No later writer has come first. -/
theorem DC.after (hcl : Closed ops S) {k : Nat} {r : TRec} (hr : rs[k]? = some r) (hrd : Ready ops S k) (i : Nat) (r' : TRec) (d : Tmp) (hi : rs[i]? = some r') (hS : S i = true) (hlt : k < i) (hd : r.o.dst = some d) : r'.o.dst ≠ some d := by
  obtain ⟨hk, x, hx, ho, hh, htm⟩ := dc.at_rec hr
  obtain ⟨_, y, hy, _, _, hytm⟩ := dc.at_rec hi
  rcases dc.ri.pair k i x y hlt hx hy with h4 | ⟨h4, _⟩
  · have := dc.bef_done hcl hS hy h4
    rw [hrd.1] at this
    cases this
  · rw [hytm, htm] at h4
    exact (apart_fst h4 hd).2
end
end Ev
end Go
namespace Go
namespace Ev
section
variable {P : Program} {E : Env} {ih : Fns} {ops : Array Oper} {I : List RI} {rs : List TRec} {fr fr' : AFr} {A A' : AW} {S : Nat → Bool}

/-- How things stand, when the operations of a set have been carried out. -/
structure Inv (P : Program) (ops : Array Oper) (I : List RI) (rs : List TRec) (fr fr' : AFr) (A A' : AW) (m0 : Mp) (w0 : World) (S : Nat → Bool) (m : Mp) (p : Nat) (a : Act) (w : World) : Prop where
  cl : Closed ops S
  pos : Pos I ops.size S p
  hr : HRg P m (G P rs fr' A' A.next p) (nextOf rs fr' A' p).2.next w
  le : m0.le m
  un : ∀ (i : Nat) (r : TRec), rs[i]? = some r → lays P r = true → S i = false → m (A.next + i) = none
  ti : TI m rs fr (fun i => S i = true) a
  size : a.tmps.size = fr.n
  df : DefR m fr.defers a.defers
  next : A.next + ops.size ≤ (nextOf rs fr' A' p).2.next
  new : ∀ i l, m0 i = none → m i = some l → A.next ≤ i
  hsize : w0.heap.size ≤ w.heap.size
  frame : ∀ r, r < w0.heap.size → ¬ Owned A m0 r → w.heap[r]? = w0.heap[r]? ∧ ¬ OwnedG (G P rs fr' A' A.next p) m r
  tape : w.tape = w0.tape
  os : w.os = w0.os
  out : w.output = w0.output

def addS (S : Nat → Bool) (k : Nat) : Nat → Bool := fun i => if i = k then true else S i

theorem hcnt_mono {i j : Nat} (h : i ≤ j) : hcnt I i ≤ hcnt I j := by
  rw [← count_lt I 0 i, ← count_lt I 0 j]
  refine countB_le fun x _ hx => ?_
  simp only [Nat.zero_add, decide_eq_true_eq] at hx ⊢
  omega
theorem hcnt_lt {p k : Nat} {x : RI} (hx : I[p]? = some x) (hh : x.heavy = true) (h : p < k) : hcnt I p < hcnt I k := by
  have h1 := hcnt_succ hx
  rw [hh, if_pos rfl] at h1
  have := hcnt_mono (I := I) (i := p + 1) (j := k) (by omega)
  omega

variable (dc : DC P E ih ops I rs fr fr' A A')
include dc

/-- What lies at a place of the world is there, or will be. -/
theorem DC.sub {p : Nat} (hp : Turn I ops.size p) (hle : p ≤ ops.size) : ∀ i o, (nextOf rs fr' A' p).2.get i = some o → G P rs fr' A' A.next p i = some o := by
  intro i o hi
  unfold G
  split
  · cases hl : layAt P rs A.next i with
    | none => exact hi
    | some ob =>
      exfalso
      obtain ⟨k, r, rfl, hr, hlay, _⟩ := layAt_some hl
      obtain ⟨hk, x, hx, ho, hh, _⟩ := dc.at_rec hr
      have hkp : p < k ∨ p = k := by omega
      have hkind : Nat.beq (kind P r.o.op) 2 = true := by unfold lays at hlay; exact (and_true hlay).2
      have hnh : x.heavy = false := by
        rw [hh]; unfold isHeavy; rw [beq_true hkind]; rfl
      rcases hkp with hkp | rfl
      · have hn : needs P r = true := by
          unfold lays at hlay
          unfold needs
          rw [(and_true hlay).1, hkind]
          simp
        have hst := stageOK_at (checkAll_at dc.chk k r x hr hx hn) _ _ (dc.stage hp hle)
        have h1 : Nat.beq (kind P r.o.op) 1 = false := by rw [beq_true hkind]; rfl
        rw [h1] at hst
        have hc : hcnt I p < hcnt I k := by
          rcases hp with hp | ⟨y, hy, hyh⟩
          · omega
          · exact hcnt_lt hy hyh hkp
        have h2 : Nat.blt (0 + hcnt I p) (0 + hcnt I k) = true := by
          simp only [Nat.zero_add]
          exact Nat.ble_eq_true_of_le hc
        rw [h2] at hst
        simp only [cond_false, cond_true] at hst
        rw [hi] at hst
        cases hst
      · rcases hp with hp | ⟨y, hy, hyh⟩
        · omega
        · rw [hx] at hy
          simp only [Option.some.injEq] at hy
          subst hy
          rw [hnh] at hyh
          cases hyh
  · exact hi

theorem DC.read_told (hcl : Closed ops S) {p k : Nat} {r : TRec} (hp : Pos I ops.size S p) (hr : rs[k]? = some r) (hrd : Ready ops S k) (hw : r.w = true) (hk : kind P r.o.op = 1) :
    evR P r.fr (nextOf rs fr' A' p).2 r.o.type r.o.op = some r.v := by
  obtain ⟨hkn, x, hx, ho, hh, _⟩ := dc.at_rec hr
  have hn : needs P r = true := by unfold needs; rw [hw, hk]; rfl
  have hst := stageOK_at (checkAll_at dc.chk k r x hr hx hn) _ _ (dc.stage hp.turn hp.le)
  have hlo := dc.lo hcl hp hrd hx
  have hhi := dc.hi hcl hp hrd
  rw [hk] at hst
  simp only [Nat.zero_add] at hst
  rw [Nat.ble_eq_true_of_le hlo, Nat.ble_eq_true_of_le hhi] at hst
  change (match evR P r.fr (nextOf rs fr' A' p).2 r.o.type r.o.op with | some v => vEq v r.v | none => false) = true at hst
  split at hst
  · rename_i v hv
    rw [hv, vEq_eq _ _ hst]
  · cases hst

theorem DC.lay_there (hcl : Closed ops S) {p k : Nat} {r : TRec} (hp : Pos I ops.size S p) (hr : rs[k]? = some r) (hrd : Ready ops S k) (hl : lays P r = true) :
    G P rs fr' A' A.next p (A.next + k) = some r.ob := by
  obtain ⟨hkn, x, hx, ho, hh, _⟩ := dc.at_rec hr
  unfold G
  by_cases hpk : A.next + p ≤ A.next + k
  · rw [if_pos hpk, layAt_get hr hl]
  · rw [if_neg hpk]
    have hl' := hl
    unfold lays at hl'
    obtain ⟨hw, hkd⟩ := and_true hl'
    have hn : needs P r = true := by unfold needs; rw [hw, hkd]; simp
    have hst := stageOK_at (checkAll_at dc.chk k r x hr hx hn) _ _ (dc.stage hp.turn hp.le)
    have hhi := dc.hi hcl hp hrd
    have h1 : Nat.beq (kind P r.o.op) 1 = false := by rw [beq_true hkd]; rfl
    have h2 : Nat.blt (hcnt I p) (hcnt I k) = false := by
      cases hb : Nat.blt (hcnt I p) (hcnt I k) with
      | false => rfl
      | true =>
        have := blt_true hb
        have := hcnt_mono (I := I) (i := k) (j := p) (by omega)
        omega
    simp only [Nat.zero_add] at hst
    rw [h1, h2, Nat.ble_eq_true_of_le hhi] at hst
    change (match (nextOf rs fr' A' p).2.get (A.next + k) with | some ob => obEq ob r.ob | none => false) = true at hst
    split at hst
    · rename_i ob hob
      rw [hob, obEq_eq hst]
    · cases hst
end
end Ev
end Go
namespace Go
namespace Ev
section
variable {P : Program} {E : Env} {ih : Fns} {ops : Array Oper} {I : List RI} {rs : List TRec} {fr fr' : AFr} {A A' : AW} {S : Nat → Bool}

theorem addS_iff {k i : Nat} : addS S k i = true ↔ (S i = true ∨ i = k) := by
  unfold addS
  by_cases h : i = k <;> simp [h]

theorem closed_add {k : Nat} (hcl : Closed ops S) (hrd : Ready ops S k) : Closed ops (addS S k) := by
  intro i o e hi ho he hb
  rw [addS_iff] at hi ⊢
  rcases hi with hi | rfl
  · exact .inl (hcl i o e hi ho he hb)
  · exact .inl (hrd.2 o e ho he hb)

theorem ti_add {m : Mp} {a : Act} {k : Nat} {r : TRec} {v' : Value} (ht : TI m rs fr (fun i => S i = true) a) (hr : rs[k]? = some r) (hS : S k = false) (hv : VR m r.v v')
    (hd : ∀ d, r.o.dst = some d → d < a.tmps.size) (hhi : ∀ i r' d, rs[i]? = some r' → S i = true → k < i → r.o.dst = some d → r'.o.dst ≠ some d) : TI m rs fr (fun i => addS S k i = true) (a.put r.o.dst v') := by
  have h1 := ht.step hr (by rw [hS]; simp) hv hd hhi
  have e : (fun i => addS S k i = true) = (fun i => S i = true ∨ i = k) := by
    funext i
    exact propext addS_iff
  rw [e]
  exact h1

theorem pos_light {n p k : Nat} {x : RI} (hp : Pos I n S p) (hx : I[k]? = some x) (hh : x.heavy = false) : Pos I n (addS S k) p := by
  refine ⟨hp.le, hp.turn, fun h y hy hyh => ?_⟩
  have hne : h ≠ k := fun e => by subst e; rw [hx] at hy; simp only [Option.some.injEq] at hy; subst hy; rw [hh] at hyh; cases hyh
  unfold addS
  rw [if_neg hne]
  exact hp.iff h y hy hyh

theorem pos_heavy {n p p' : Nat} (hp : Pos I n S p) (hlt : p < p') (hle : p' ≤ n) (ht : Turn I n p') (hno : ∀ h x, p + 1 ≤ h → h < p' → I[h]? = some x → x.heavy = false) : Pos I n (addS S p) p' := by
  refine ⟨hle, ht, fun h y hy hyh => ?_⟩
  unfold addS
  by_cases e : h = p
  · subst e
    rw [if_pos rfl, decide_eq_true hlt]
  · rw [if_neg e, hp.iff h y hy hyh]
    by_cases h1 : h < p
    · rw [decide_eq_true h1, decide_eq_true (by omega)]
    · have h2 : ¬ h < p' := fun h2 => by
        have := hno h y (by omega) h2 hy
        rw [hyh] at this
        cases this
      rw [decide_eq_false h1, decide_eq_false h2]
end
end Ev
end Go
namespace Go
namespace Ev
section
variable {P : Program} {E : Env} {ih : Fns} {ops : Array Oper} {I : List RI} {rs : List TRec} {fr fr' : AFr} {A A' : AW} {S : Nat → Bool} {m0 m : Mp} {w0 w w' : World} {a : Act} {p k : Nat} {r : TRec}

theorem put_size {fr1 fr2 : AFr} {dst : Option Tmp} {v : Value} (h : fr1.put dst v = some fr2) {d : Tmp} (hd : dst = some d) : d < fr1.n := by
  subst hd
  simp only [AFr.put_some] at h
  exact blt_true (bif_some' h).1

theorem act_put_size (a : Act) (dst : Option Tmp) (v : Value) : (a.put dst v).tmps.size = a.tmps.size := by cases dst <;> simp [Act.put]
theorem act_put_defers (a : Act) (dst : Option Tmp) (v : Value) : (a.put dst v).defers = a.defers := by cases dst <;> rfl

variable (dc : DC P E ih ops I rs fr fr' A A')
include dc

theorem DC.full_n (hF : fr.n ≤ top4) (hr : rs[k]? = some r) : r.full.n = fr.n := by
  obtain ⟨hk, _⟩ := dc.at_rec hr
  obtain ⟨h1, _, _⟩ := full_tmps (base := A.next) (by rw [dc.start]) hF dc.step k (by rw [dc.len]; exact Nat.le_of_lt hk)
  have hf : (nextOf rs fr' A' k).1 = r.full := by simp [nextOf, hr]
  rw [hf] at h1
  exact h1

/-- Nothing of the world turns, and nothing is laid. -/
theorem DC.keep (inv : Inv P ops I rs fr fr' A A' m0 w0 S m p a w) (hF : fr.n ≤ top4) (hr : rs[k]? = some r) (hrd : Ready ops S k) (hh : isHeavy P r.o.op = false) {v' : Value} (hv : VR m r.v v') :
    Inv P ops I rs fr fr' A A' m0 w0 (addS S k) m p (a.put r.o.dst v') w := by
  obtain ⟨hk, x, hx, ho, hxh, _⟩ := dc.at_rec hr
  refine { inv with
    cl := closed_add inv.cl hrd
    pos := pos_light inv.pos hx (by rw [hxh]; exact hh)
    un := fun i r1 hi hli hS => ?_
    ti := ti_add inv.ti hr hrd.1 hv (fun d hd => ?_) (fun i r' d hi hS hlt hd => dc.after inv.cl hr hrd i r' d hi hS hlt hd)
    size := by rw [act_put_size]; exact inv.size
    df := by rw [act_put_defers]; exact inv.df }
  · refine inv.un i r1 hi hli ?_
    unfold addS at hS
    split at hS
    · cases hS
    · exact hS
  · have := put_size (dc.step k r hr).put hd
    rw [dc.full_n hF hr] at this
    rw [inv.size]
    exact this

/-- A block is laid. -/
theorem DC.lay (inv : Inv P ops I rs fr fr' A A' m0 w0 S m p a w) (hF : fr.n ≤ top4) (hr : rs[k]? = some r) (hrd : Ready ops S k) (hl : lays P r = true) {vf : Nat → Value} {v' : Value} (hvf : r.v = vf (A.next + k))
    (hlay : Lays P m w w' r.ob vf v') : ∃ m', Inv P ops I rs fr fr' A A' m0 w0 (addS S k) m' p (a.put r.o.dst v') w' := by
  obtain ⟨hk, x, hx, ho, hxh, _⟩ := dc.at_rec hr
  have hkd : kind P r.o.op = 2 := by unfold lays at hl; exact beq_true (and_true hl).2
  have hh : isHeavy P r.o.op = false := by unfold isHeavy; rw [hkd]; rfl
  have hnx := inv.next
  obtain ⟨m', h1, h2, h3, h4, h5, h6, h7⟩ := hrg_lay inv.hr (by omega) (inv.un k r hr hl hrd.1) (dc.lay_there inv.cl inv.pos hr hrd hl) hlay
  rw [← hvf] at h3
  refine ⟨m', {
    cl := closed_add inv.cl hrd
    pos := pos_light inv.pos hx (by rw [hxh]; exact hh)
    hr := h2
    le := Mp.le_trans inv.le h1
    un := fun i r1 hi hli hS => ?_
    ti := ti_add (inv.ti.mono h1) hr hrd.1 h3 (fun d hd => ?_) (fun i r' d hi hS hlt hd => dc.after inv.cl hr hrd i r' d hi hS hlt hd)
    size := by rw [act_put_size]; exact inv.size
    df := by rw [act_put_defers]; exact inv.df.mono h1
    next := inv.next
    new := fun i l hn hs => ?_
    hsize := Nat.le_trans inv.hsize h7
    frame := fun q hq hno => ?_
    tape := hlay.tape.trans inv.tape
    os := hlay.os.trans inv.os
    out := hlay.out.trans inv.out }⟩
  · unfold addS at hS
    split at hS
    · cases hS
    · rename_i hne
      rw [h4 _ (by omega)]
      exact inv.un i r1 hi hli hS
  · have := put_size (dc.step k r hr).put hd
    rw [dc.full_n hF hr] at this
    rw [inv.size]
    exact this
  · by_cases e : i = A.next + k
    · omega
    · rw [h4 i e] at hs
      exact inv.new i l hn hs
  · obtain ⟨g1, g2⟩ := inv.frame q hq hno
    have hq' := Nat.lt_of_lt_of_le hq inv.hsize
    exact ⟨(h5 q hq').trans g1, h6 q hq' g2⟩
end
end Ev
end Go
namespace Go
namespace Ev
section
variable {P : Program} {E : Env} {ih : Fns} {ops : Array Oper} {I : List RI} {rs : List TRec} {fr fr' : AFr} {A A' : AW} {S : Nat → Bool} {m0 m m' : Mp} {w0 w w' : World} {a : Act} {p k : Nat} {r : TRec}
variable (dc : DC P E ih ops I rs fr fr' A A')
include dc

theorem DC.not_yet (ht : Turn I ops.size p) (hle : p ≤ ops.size) (hr : rs[k]? = some r) (hl : lays P r = true) (hlt : p < k) : (nextOf rs fr' A' p).2.get (A.next + k) = none := by
  obtain ⟨hk, x, hx, ho, hh, _⟩ := dc.at_rec hr
  have hl' := hl
  unfold lays at hl'
  obtain ⟨hw, hkd⟩ := and_true hl'
  have hn : needs P r = true := by unfold needs; rw [hw, hkd]; simp
  have hst := stageOK_at (checkAll_at dc.chk k r x hr hx hn) _ _ (dc.stage ht hle)
  have h1 : Nat.beq (kind P r.o.op) 1 = false := by rw [beq_true hkd]; rfl
  have hc : hcnt I p < hcnt I k := by
    rcases ht with hp | ⟨y, hy, hyh⟩
    · omega
    · exact hcnt_lt hy hyh hlt
  have h2 : Nat.blt (hcnt I p) (hcnt I k) = true := Nat.ble_eq_true_of_le hc
  simp only [Nat.zero_add] at hst
  rw [h1, h2] at hst
  simp only [cond_false, cond_true] at hst
  split at hst
  · assumption
  · cases hst

open Classical in
/-- The world is turned. -/
theorem DC.turned (inv : Inv P ops I rs fr fr' A A' m0 w0 S m p a w) (hF : fr.n ≤ top4) (hr : rs[k]? = some r) (hrd : Ready ops S k) (hh : isHeavy P r.o.op = true) {v' : Value}
    (h1 : HR P m' (nextOf rs fr' A' (k + 1)).2 w') (hE : Ext r.A m w (nextOf rs fr' A' (k + 1)).2 m' w') (hv : VR m' r.v v') : ∃ p', Inv P ops I rs fr fr' A A' m0 w0 (addS S k) m' p' (a.put r.o.dst v') w' := by
  obtain ⟨hk, x, hx, ho, hxh, _⟩ := dc.at_rec hr
  have hpk := dc.turn_is inv.cl inv.pos hrd hx (by rw [hxh]; exact hh)
  subst hpk
  have hA : (nextOf rs fr' A' p).2 = r.A := by simp [nextOf, hr]
  have hnx := inv.next
  obtain ⟨g1, g2⟩ := hrg_heavy (R := fun i => A.next + (p + 1) ≤ i ∧ ∃ ob, layAt P rs A.next i = some ob) (g1 := G P rs fr' A' A.next (p + 1)) inv.hr (A := r.A) (by rw [hA]) (fun i o hi => dc.sub inv.pos.turn inv.pos.le i o (by rw [hA]; exact hi))
    (fun i ⟨hi, ob, hob⟩ => by
      obtain ⟨j, r1, rfl, hr1, hl1, _⟩ := layAt_some hob
      obtain ⟨hj, _⟩ := dc.at_rec hr1
      refine ⟨by omega, ?_⟩
      have := dc.not_yet inv.pos.turn inv.pos.le hr1 hl1 (by omega)
      rw [hA] at this
      exact this) h1 hE (fun i => by
      by_cases hi : A.next + (p + 1) ≤ i
      · cases hla : layAt P rs A.next i with
        | none =>
          rw [if_neg (by rintro ⟨_, ob, h⟩; cases h)]
          simp [G, hi, hla]
        | some ob =>
          rw [if_pos ⟨hi, ob, rfl⟩]
          have : A.next + p ≤ i := by omega
          simp [G, hi, hla, this]
      · rw [if_neg (fun h => hi h.1)]
        simp [G, hi])
  obtain ⟨p', q1, q2, q3, q4, q5, q6⟩ := dc.adv (ops.size - (p + 1)) (p + 1) (by omega)
  refine ⟨p', {
    cl := closed_add inv.cl hrd
    pos := pos_heavy inv.pos (by omega) q2 q3 q4
    hr := by rw [q5, q6]; exact g1
    le := Mp.le_trans inv.le hE.le
    un := fun i r1 hi hli hS => ?_
    ti := ti_add (inv.ti.mono hE.le) hr hrd.1 hv (fun d hd => ?_) (fun i r' d hi hS hlt hd => dc.after inv.cl hr hrd i r' d hi hS hlt hd)
    size := by rw [act_put_size]; exact inv.size
    df := by rw [act_put_defers]; exact inv.df.mono hE.le
    next := by rw [q6]; rw [hA] at hnx; exact Nat.le_trans hnx hE.next
    new := fun i l hn hs => ?_
    hsize := Nat.le_trans inv.hsize hE.size
    frame := fun q hq hno => ?_
    tape := hE.tape.trans inv.tape
    os := hE.os.trans inv.os
    out := hE.out.trans inv.out }⟩
  · have hS' : S i = false := by
      unfold addS at hS
      split at hS
      · cases hS
      · exact hS
    have hm := inv.un i r1 hi hli hS'
    obtain ⟨hi', _⟩ := dc.at_rec hi
    cases hm' : m' (A.next + i) with
    | none => rfl
    | some l =>
      have := hE.new _ l hm hm'
      rw [hA] at hnx
      omega
  · have := put_size (dc.step p r hr).put hd
    rw [dc.full_n hF hr] at this
    rw [inv.size]
    exact this
  · cases hm : m i with
    | none =>
      have := hE.new i l hm hs
      rw [hA] at hnx
      omega
    | some l1 => exact inv.new i l1 hn hm
  · obtain ⟨f1, f2⟩ := inv.frame q hq hno
    obtain ⟨f3, f4⟩ := g2 q (Nat.lt_of_lt_of_le hq inv.hsize) f2
    rw [q5]
    exact ⟨f3.trans f1, f4⟩
end
end Ev
end Go
namespace Go
namespace Ev
section
variable {P : Program} {E : Env} {ih : Fns} {ops : Array Oper} {I : List RI} {rs : List TRec} {fr fr' : AFr} {A A' : AW} {S : Nat → Bool} {m0 m m' : Mp} {w0 w w' : World} {a : Act} {n p k : Nat} {r : TRec}

theorem mem_looks {o : Oper} {t : Tmp} (h : Operand.tmp t ∈ o.op.operands.toList) : t ∈ looksL ops o :=
  List.mem_append_left _ (List.mem_filterMap.2 ⟨.tmp t, h, rfl⟩)
theorem guard_looks {o : Oper} {j : Nat} {b : Bool} {d : Tmp} (hg : o.guard = some (j, b)) (hd : ((ops[j]?).bind (·.dst)) = some d) : d ∈ looksL ops o := by
  refine List.mem_append_right _ ?_
  rw [hg]
  simp [hd]

/-- What reads nothing of the world is told the same in each. -/
theorem evR_same {F : AFr} {B C : AW} {ty : TypeId} {op : Op} (hk : kind P op = 0) : evR P F B ty op = evR P F C ty op := by
  cases op
  case convert src dst x =>
    simp only [evR]
    cases h1 : P.underlying src with
    | none => rfl
    | some d1 =>
      cases h2 : P.underlying dst with
      | none => cases d1 <;> rfl
      | some d2 =>
        simp only [kind, h1, h2] at hk
        generalize opnd F x = y
        cases d1 <;> cases d2 <;> first | rfl | (cases hk; done) | (cases y with | none => rfl | some v => cases v <;> first | rfl | (rename_i a _ _; rcases a with _ | ⟨_, _, _ | _⟩ <;> rfl))
  case call c =>
    obtain ⟨callee, args, ats⟩ := c
    cases callee with
    | builtin b =>
      cases b <;> first | (simp [kind] at hk; done) | skip
      all_goals
        simp only [evR]
        generalize ats.toList = l
        generalize opnds F args.toList = y
        rcases l with _ | ⟨t, l⟩ <;> rcases y with _ | (_ | ⟨x, y⟩) <;> rfl
    | _ => rfl
  all_goals first | rfl | (simp [kind] at hk; done)

theorem no_select {F : AFr} {B B' : AW} {o : Oper} {id : Nat} {v : Value} {ob : AObj} (h : evStep P E ih F B o id = some (v, B', ob)) : ∀ cs b, o.op ≠ .select cs b := by
  intro cs b e
  obtain ⟨dst, op, type, pos, after, guard⟩ := o
  simp only at e
  subst e
  change (match (match (none : Option Value) with | some v => some (v, B) | none => none) with | some (v, A') => some (v, A', AObj.deferred) | none => none) = some (v, B', ob) at h
  cases h
theorem no_defer {F : AFr} {B B' : AW} {o : Oper} {id : Nat} {v : Value} {ob : AObj} (h : evStep P E ih F B o id = some (v, B', ob)) : ∀ c, o.op ≠ .defer c := by
  intro c e
  obtain ⟨dst, op, type, pos, after, guard⟩ := o
  simp only at e
  subst e
  change (match (match (none : Option Value) with | some v => some (v, B) | none => none) with | some (v, A') => some (v, A', AObj.deferred) | none => none) = some (v, B', ob) at h
  cases h

variable (dc : DC P E ih ops I rs fr fr' A A')
include dc

theorem DC.here (inv : Inv P ops I rs fr fr' A A' m0 w0 S m p a w) : HR P m (nextOf rs fr' A' p).2 w := by
  have hs := dc.sub inv.pos.turn inv.pos.le
  exact inv.hr.sub rfl hs

theorem DC.op_step (hC : CodeOK P n ih) (hK : CallOK P ih) (hX : ExtsOK P E) (inv : Inv P ops I rs fr fr' A A' m0 w0 S m p a w) (hF : fr.n ≤ top4) (hr : rs[k]? = some r) (hrd : Ready ops S k) {rr : Option Nat}
    {K : Act → World → Prop} {Q : Exit → Act → World → Prop} (hN : ∀ m' p' a' w', Inv P ops I rs fr fr' A A' m0 w0 (addS S k) m' p' a' w' → K a' w') : wpOpIn (fence rr) 0 P ops Q k K a w := by
  obtain ⟨hk, x, hx, ho, hxh, _⟩ := dc.at_rec hr
  have hst := dc.step k r hr
  have hlook := fun t (ht : t ∈ looksL ops r.o) => dc.looks inv.cl hF hr hrd inv.ti ht
  have hwant : Region.wanted r.o (yielded ops a.tmps) = r.w := (wanted_eq r.o fun j b d hg hd => hlook d (guard_looks hg hd)).trans hst.want
  unfold wpOpIn
  simp only [ho, hwant]
  have hnext : (nextOf rs fr' A' k).2 = r.A := by simp [nextOf, hr]
  cases hw : r.w with
  | false =>
    rw [if_neg (by simp)]
    refine ⟨fun _ _ => trivial, ?_⟩
    obtain ⟨hv, hnx⟩ := hst.no hw
    cases hh : isHeavy P r.o.op with
    | false => exact hN _ _ _ _ (dc.keep inv hF hr hrd hh (by rw [hv]; exact vr_undef m))
    | true =>
      have hpk := dc.turn_is inv.cl inv.pos hrd hx (by rw [hxh]; exact hh)
      have hH := dc.here inv
      rw [hpk, hnext] at hH
      obtain ⟨p', hp'⟩ := dc.turned inv hF hr hrd hh (m' := m) (w' := w) (v' := undef) (by rw [hnx]; exact hH) (by rw [hnx]; exact Ext.refl _ _ _) (by rw [hv]; exact vr_undef m)
      exact hN _ _ _ _ hp'
  | true =>
    rw [if_pos rfl]
    obtain ⟨hfr, hev⟩ := hst.yes hw
    have hfn := dc.full_n hF hr
    have hM : FR m r.fr (maskA a r.o) := by
      rw [hfr]
      exact mask_fr (by rw [inv.size, hfn]) (by rw [hfn]; exact hF) fun t ht => hlook t (mem_looks ht)
    have hns := no_select hev
    have hnd := no_defer hev
    have hab : execOp a.eval r.o = execOp (maskA a r.o).eval r.o := execOp_congr r.o hns fun x hx => maskA_eval a r.o x hx
    by_cases h2 : kind P r.o.op = 2
    · have hl : lays P r = true := by unfold lays; rw [hw, h2]; rfl
      obtain ⟨vf, hA, hv, _⟩ := step_lay hst hl
      obtain ⟨v', w', h3, h4⟩ := evA_ok (w := w) hM hA
      refine ⟨fun _ _ => trivial, ?_⟩
      rw [Oper.semAt_eq _ _ _ hnd, hab, h3, Oper.uponIn_value]
      obtain ⟨m', hm'⟩ := dc.lay inv hF hr hrd hl hv h4
      exact hN _ _ _ _ hm'
    · have hb : Nat.beq (kind P r.o.op) 2 = false := by
        cases hb : Nat.beq (kind P r.o.op) 2 with
        | false => rfl
        | true => exact absurd (beq_true hb) h2
      unfold evStep at hev
      rw [hb] at hev
      simp only [cond_false] at hev
      split at hev
      · rename_i v1 A1 hop
        simp only [Option.some.injEq, Prod.mk.injEq] at hev
        obtain ⟨rfl, rfl, _⟩ := hev
        cases hh : isHeavy P r.o.op with
        | true =>
          have hpk := dc.turn_is inv.cl inv.pos hrd hx (by rw [hxh]; exact hh)
          have hH := dc.here inv
          rw [hpk, hnext] at hH
          exact evOp_ok_at hC hK hX hH hM hab hop K Q fun m' v' w' h5 h6 h7 => by
            obtain ⟨p', hp'⟩ := dc.turned inv hF hr hrd hh h5 h6 h7
            exact hN _ _ _ _ hp'
        | false =>
          have h01 : kind P r.o.op = 0 ∨ kind P r.o.op = 1 := by
            unfold isHeavy at hh
            have : ¬ 3 ≤ kind P r.o.op := fun h => by rw [Nat.ble_eq_true_of_le h] at hh; cases hh
            omega
          have hR : evR P r.fr (nextOf rs fr' A' p).2 r.o.type r.o.op = some r.v := by
            rcases h01 with h0 | h1
            · rw [evR_same (C := r.A) h0]
              simp only [evOp, h0] at hop
              split at hop
              · rename_i v2 hv2
                simp only [Option.some.injEq, Prod.mk.injEq] at hop
                rw [hv2, hop.1]
              · cases hop
            · exact dc.read_told inv.cl inv.pos hr hrd hw h1
          obtain ⟨v', h5, h6⟩ := evR_ok (dc.here inv).objs hM hR
          refine ⟨fun _ _ => trivial, ?_⟩
          rw [Oper.semAt_eq _ _ _ hnd, hab, h5, Oper.uponIn_value]
          exact hN _ _ _ _ (dc.keep inv hF hr hrd hh h6)
      · cases hev
end
end Ev
end Go
namespace Go
namespace Ev
section
variable {P : Program} {E : Env} {ih : Fns} {ops : Array Oper} {I : List RI} {rs : List TRec} {fr fr' : AFr} {A A' : AW} {m0 m m' : Mp} {w0 w w' : World} {a : Act} {n p k : Nat} {r : TRec}

/-- The operations that are listed. -/
def setOf (l : Array Bool) : Nat → Bool := fun i => l.getD i false
theorem setOf_none (n : Nat) : setOf (Array.replicate n false) = fun _ => false := by
  funext i
  unfold setOf
  rw [Array.getD_eq_getD_getElem?, Array.getElem?_replicate]
  split <;> rfl
theorem setOf_add {l : Array Bool} {k : Nat} (hk : k < l.size) : setOf (l.setIfInBounds k true) = addS (setOf l) k := by
  funext i
  unfold setOf addS
  by_cases h : i = k
  · subst h; simp [hk]
  · rw [if_neg h, getD_set_ne false (fun e => h e.symm)]

theorem ready_of {l : Array Bool} (h : k ∈ Region.ready .any ops l) : k < l.size ∧ Ready ops (setOf l) k := by
  obtain ⟨h1, o, ho, h2⟩ := mem_ready.1 h
  have hk : k < l.size := by
    rcases Nat.lt_or_ge k l.size with hlt | hge
    · exact hlt
    · rw [Array.getD_eq_getD_getElem?, Array.getElem?_eq_none hge] at h1
      cases h1
  refine ⟨hk, ?_, fun o' e ho' he hb => ?_⟩
  · unfold setOf
    rw [Array.getD_eq_getD_getElem?, Array.getElem?_eq_getElem hk] at h1 ⊢
    exact h1
  · rw [ho] at ho'
    simp only [Option.some.injEq] at ho'
    subst ho'
    exact h2 e he hb

variable (dc : DC P E ih ops I rs fr fr' A A')
include dc

/-- Where nothing can come up any more, all has been listed. -/
theorem DC.all_listed {l : Array Bool} (hl : l.size = ops.size) (h : Region.ready .any ops l = []) : ∀ (N k : Nat), k ≤ N → k < ops.size → setOf l k = true
  | N, k, hN, hk => by
    cases hs : setOf l k with
    | true => rfl
    | false =>
      exfalso
      obtain ⟨r, x, hr, hx, ho, _⟩ := dc.rec_at hk
      have : k ∈ Region.ready .any ops l := by
        refine mem_ready.2 ⟨?_, r.o, ho, fun e he hb => ?_⟩
        · unfold setOf at hs
          rw [Array.getD_eq_getD_getElem?, Array.getElem?_eq_getElem (by omega)] at hs ⊢
          exact hs
        · have hlt := dc.ri.back k r.o ho e he hb
          cases N with
          | zero => omega
          | succ N => exact DC.all_listed hl h N e.on (by omega) (by omega)
      rw [h] at this
      cases this

/-- The end. -/
theorem DC.fin {S : Nat → Bool} (inv : Inv P ops I rs fr fr' A A' m0 w0 S m p a w) (hF : fr.n ≤ top4) (hall : ∀ k, k < ops.size → S k = true) :
    HR P m A' w ∧ Ext A m0 w0 A' m w ∧ FR m fr' a ∧ DefR m fr'.defers a.defers := by
  have hp : p = ops.size := by
    rcases inv.pos.turn with h | ⟨x, hx, hh⟩
    · exact h
    · have hlt : p < ops.size := by
        have := (List.getElem?_eq_some_iff.1 hx).1
        rw [dc.ri.len] at this
        exact this
      have := inv.pos.iff p x hx hh
      rw [hall p hlt] at this
      simp at this
  subst hp
  have hn : nextOf rs fr' A' ops.size = (fr', A') := by
    unfold nextOf
    rw [List.getElem?_eq_none (by rw [dc.len]; exact Nat.le_refl _)]
  have hH := dc.here inv
  have hsub := dc.sub inv.pos.turn inv.pos.le
  have hnx := inv.next
  have hfrm := inv.frame
  rw [hn] at hH hsub hnx
  obtain ⟨h1, h2, h3⟩ := full_tmps (base := A.next) (by rw [dc.start]) hF dc.step ops.size (by rw [dc.len]; exact Nat.le_refl _)
  rw [hn] at h1 h2 h3
  simp only at h1 h2 h3 hH hsub hnx
  refine ⟨hH, ⟨inv.le, by omega, inv.new, inv.hsize, fun r hr hno => ?_, inv.tape, inv.os, inv.out⟩, ⟨by rw [inv.size, h1], by rw [h1]; exact hF, fun t => ?_⟩, by rw [h2]; exact inv.df⟩
  · obtain ⟨g1, g2⟩ := hfrm r hr hno
    refine ⟨g1, fun ⟨i, o, l, hi, hm, hb⟩ => g2 ⟨i, o, l, hsub i o hi, hm, hb⟩⟩
  · refine inv.ti.look (h3 t) (fun i r hi hlt _ => hall i hlt) (fun i r hi hS hlt => ?_)
    have := (List.getElem?_eq_some_iff.1 hi).1
    rw [dc.len] at this
    exact absurd this hlt

/-- The start. -/
theorem DC.init (hH : HR P m A w) (hF : FR m fr a) (hD : DefR m fr.defers a.defers) : ∃ p, Inv P ops I rs fr fr' A A' m w (fun _ => false) m p a w := by
  obtain ⟨p, h1, h2, h3, h4, h5, h6⟩ := dc.adv ops.size 0 (by omega)
  have hst := dc.start
  have hG0 : ∀ i o, G P rs fr' A' A.next 0 i = some o → (∃ k, i = A.next + k ∧ k < ops.size) ∨ A.get i = some o := fun i o hi => by
    unfold G at hi
    split at hi
    · cases hl : layAt P rs A.next i with
      | none =>
        rw [hl] at hi
        rw [hst] at hi
        exact .inr hi
      | some ob =>
        obtain ⟨j, r, e, hr, _, _⟩ := layAt_some hl
        exact .inl ⟨j, e, (dc.at_rec hr).1⟩
    · rw [hst] at hi
      exact .inr hi
  have hG : ∀ i o l, G P rs fr' A' A.next p i = some o → m i = some l → A.get i = some o := fun i o l hi hm => by
    rw [h5] at hi
    rcases hG0 i o hi with ⟨k, e, _⟩ | h
    · have := hH.dom i l hm; omega
    · exact h
  have hnx : (nextOf rs fr' A' p).2.next = A.next + ops.size := by rw [h6, hst]
  refine ⟨p, {
    cl := fun i o e h => by cases h
    pos := ⟨h2, h3, fun h x hx hh => ?_⟩
    hr := ?_
    le := Mp.le_refl m
    un := fun i r hi hl _ => ?_
    ti := fun t => .inr ⟨fun i r hi h => (by cases h), hF.tmps t⟩
    size := hF.size
    df := hD
    next := by rw [hnx]; exact Nat.le_refl _
    new := fun i l h h' => by rw [h] at h'; cases h'
    hsize := Nat.le_refl _
    frame := fun r hr hno => ⟨rfl, fun ⟨i, o, l, hi, hm, hb⟩ => hno ⟨i, o, l, hG i o l hi hm, hm, hb⟩⟩
    tape := rfl
    os := rfl
    out := rfl }⟩
  · have : ¬ h < p := fun hlt => by
      have := h4 h x (Nat.zero_le _) hlt hx
      rw [hh] at this
      cases this
    rw [decide_eq_false this]
  · rw [hnx]
    refine ⟨dc.top, fun i o hi => ?_, fun i l hi => Nat.lt_of_lt_of_le (hH.dom i l hi) (Nat.le_add_right _ _), fun i j oi oj li lj hi hj hmi hmj => hH.inj i j oi oj li lj (hG _ _ _ hi hmi) (hG _ _ _ hj hmj) hmi hmj,
      fun i o l hi hm => hH.obj i o l (hG _ _ _ hi hm) hm⟩
    rw [h5] at hi
    rcases hG0 i o hi with ⟨k, e, hk⟩ | h
    · omega
    · exact Nat.lt_of_lt_of_le (hH.live i o h) (Nat.le_add_right _ _)
  · cases hm : m (A.next + i) with
    | none => rfl
    | some l => have := hH.dom _ l hm; omega

theorem DC.any (hC : CodeOK P n ih) (hK : CallOK P ih) (hX : ExtsOK P E) (hF : fr.n ≤ top4) {rr : Option Nat} {Q : Exit → Act → World → Prop}
    (hQ : ∀ S m p a w, Inv P ops I rs fr fr' A A' m0 w0 S m p a w → (∀ k, k < ops.size → S k = true) → Q .normal a w) :
    ∀ (fuel : Nat) (l : Array Bool) (m : Mp) (p : Nat) (a : Act) (w : World), l.size = ops.size → l.toList.count false ≤ fuel → Inv P ops I rs fr fr' A A' m0 w0 (setOf l) m p a w → wpAnyIn (fence rr) 0 P .any ops Q fuel l a w
  | 0, l, m, p, a, w, hl, hc, inv => by
    have hall : ∀ k, k < ops.size → setOf l k = true := fun k hk => by
      unfold setOf
      rw [Array.getD_eq_getD_getElem?, Array.getElem?_eq_getElem (by omega)]
      have h1 : l.toList.count false = 0 := by omega
      rw [List.count_eq_zero] at h1
      cases hb : l[k] with
      | true => simp
      | false =>
        refine absurd ?_ h1
        rw [← hb]
        exact Array.getElem_mem_toList (by omega)
    refine ⟨?_, hQ _ m p a w inv hall⟩
    cases hr : Region.ready .any ops l with
    | nil => rfl
    | cons k t =>
      obtain ⟨h1, h2⟩ := ready_of (k := k) (by rw [hr]; exact List.mem_cons_self)
      have := h2.1
      rw [hall k (by omega)] at this
      cases this
  | fuel + 1, l, m, p, a, w, hl, hc, inv => by
    refine ⟨fun hr => hQ _ m p a w inv fun k hk => dc.all_listed hl hr k k (Nat.le_refl _) hk, fun k hk => ?_⟩
    obtain ⟨h1, h2⟩ := ready_of hk
    obtain ⟨r, x, hr, _⟩ := dc.rec_at (k := k) (by omega)
    refine dc.op_step hC hK hX inv hF hr h2 fun m' p' a' w' inv' => ?_
    refine DC.any hC hK hX hF hQ fuel _ m' p' a' w' (by simp [hl]) ?_ (by rw [setOf_add h1]; exact inv')
    have hb : l.toList[k]'(by simpa using h1) = false := by
      have := h2.1
      unfold setOf at this
      rw [Array.getD_eq_getD_getElem?, Array.getElem?_eq_getElem h1] at this
      simpa using this
    rw [Array.toList_setIfInBounds, List.count_set (by simpa using h1), hb]
    have h3 : 0 < l.toList.count false := List.count_pos_iff.2 (by rw [← hb]; exact List.getElem_mem _)
    change l.toList.count false - 1 + 0 ≤ fuel
    omega
omit dc

/-- **A REGION THAT DRAWS ITS ORDER.** -/
theorem draw_ok (hm : P.follows .mixedOrders = true) (hX : ExtsOK P E) (n : Nat) (ih : Fns) (hC : CodeOK P n ih) (hK : CallOK P ih) : DrawOK P E ih := by
  intro ops fr A fr' A' h m r a w id hH hF hD Q hQ
  obtain ⟨I, rs, dc⟩ := evDraw_dc h
  refine wpIn_region_any hm ?_
  have hH' : HR P m A { w with drawn := w.drawn + 1 } := hr_world hH rfl
  obtain ⟨p, inv⟩ := dc.init hH' hF hD
  refine dc.any hC hK hX hF.top (m0 := m) (w0 := { w with drawn := w.drawn + 1 }) (fun S m1 p1 a1 w1 inv1 hall => ?_) ops.size _ m p a _ (by simp) (by simp) (by rw [setOf_none]; exact inv)
  obtain ⟨h1, h2, h3, h4⟩ := dc.fin inv1 hF.top hall
  exact hQ m1 a1 w1 h1 ⟨h2.le, h2.next, h2.new, h2.size, h2.frame, h2.tape, h2.os, h2.out⟩ h3 h4

/-- **THE EVALUATOR IS SOUND, regions that draw their order among it.** -/
theorem ev_ok (hm : P.follows .mixedOrders = true) (hX : ExtsOK P E) (hO : OvOK P E) (n : Nat) : CallOK P (ev P E n) :=
  (ev_sound hX hO (draw_ok hm hX) n).2
end
end Ev
end Go
