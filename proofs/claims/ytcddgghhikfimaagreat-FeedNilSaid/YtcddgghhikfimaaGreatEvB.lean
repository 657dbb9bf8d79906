/-
  What the evaluator lays and writes agrees with the machine.
-/
import Derived.Test.YtcddgghhikfimaaGreatEvA
namespace Go
namespace Ev
section
variable {P : Program} {m : Mp} {A : AW} {w : World} {fr : AFr} {a : Act}

/-- One block is laid, and nothing else turns. -/
structure Lays (P : Program) (m : Mp) (w w' : World) (ob : AObj) (vf : Nat → Value) (v' : Value) : Prop where
  tape : w'.tape = w.tape
  os : w'.os = w.os
  out : w'.output = w.output
  heap : ∃ obj, w'.heap = w.heap.push obj
  rel : ∃ loc : Loc, loc.blk = w.heap.size ∧ ∀ id (m' : Mp), m.le m' → m' id = some loc → ObjR P m' w'.heap ob loc ∧ VR m' (vf id) v'

theorem heap_push_new (h : Array Obj) (o : Obj) : (h.push o)[h.size]? = some o := by simp

/-- A new row of cells. -/
theorem lays_cells {w' : World} {c : List Value} {e : TypeId} {C : Array Value} {fz : Nat × Nat} {vf : Nat → Value} {v' : Value}
    (ht : w'.tape = w.tape) (ho : w'.os = w.os) (hu : w'.output = w.output) (hh : w'.heap = w.heap.push (.cells C e fz)) (hl : c.length ≤ C.size) (hz : fz = (0, 0) ∨ fz = (C.size, C.size + 1))
    (hc : ∀ (i : Nat) (v : Value), c[i]? = some v → ∃ v', C[i]? = some v' ∧ VR m v v')
    (hv : ∀ id (m' : Mp), m.le m' → m' id = some ⟨w.heap.size, 0, P.cellsOf e, C.size⟩ → VR m' (vf id) v') : Lays P m w w' (.cells c e) vf v' := by
  refine ⟨ht, ho, hu, ⟨_, hh⟩, ⟨w.heap.size, 0, P.cellsOf e, C.size⟩, rfl, fun id m' hle hid => ⟨⟨rfl, hl, C, e, fz, ?_, by simp, hz, ?_⟩, hv id m' hle hid⟩⟩
  · rw [hh]; exact heap_push_new _ _
  · intro i v hi
    obtain ⟨v', h1, h2⟩ := hc i v hi
    exact ⟨v', by simpa using h1, h2.mono hle⟩

theorem VRs.arr {l : List Value} {C : Array Value} (h : VRs m l C.toList) : ∀ (i : Nat) (v : Value), l[i]? = some v → ∃ v', C[i]? = some v' ∧ VR m v v' := fun i v hv => by
  obtain ⟨v', h1, h2⟩ := h.get i hv
  exact ⟨v', by simpa using h1, h2⟩

theorem elemInfo_some {t e : TypeId} {size bytes : Nat} (h : elemInfo P t = some (e, size, bytes)) : P.underlying t = some (.slice e) ∧ ∃ i, P.info? e = some i ∧ i.size = size ∧ i.bytes = bytes := by
  unfold elemInfo at h
  split at h
  · rename_i e0 hu
    split at h
    · rename_i i hi
      simp only [Option.some.injEq, Prod.mk.injEq] at h
      obtain ⟨rfl, rfl, rfl⟩ := h
      exact ⟨hu, i, hi, rfl, rfl⟩
    · cases h
  · cases h
theorem cellsOf_info {e : TypeId} {i : TypeInfo} (h : P.info? e = some i) : P.cellsOf e = i.size := by simp [Program.cellsOf, h]

theorem zeroRow_some {e : TypeId} {n : Nat} {r : List Value} (h : zeroRow P e n = some r) :
    ∃ z, zeroOf P e = some z ∧ r = ((Array.range n).map (z.cells[· % z.cells.size]!)).toList ∧ vPlains r = true ∧ 0 < z.cells.size := by
  unfold zeroRow at h
  split at h
  · rename_i z hz
    obtain ⟨hp, h⟩ := bif_some' h
    obtain ⟨h1, h2⟩ := and_true hp
    simp only [Option.some.injEq] at h
    subst h
    exact ⟨z, hz, rfl, h1, blt_true h2⟩
  · cases h

theorem grownCap_le (w : World) (need old : Nat) (e : TypeId) : need ≤ grownCap w need old e := by
  simp [grownCap, Question.cut]

/-- **WHAT LAYS ONE BLOCK.** -/
theorem evA_ok {o : Oper} {ob : AObj} {vf : Nat → Value} (hF : FR m fr a) (h : evA P fr o.op = some (ob, vf)) :
    ∃ v' w', (execOp a.eval o).run P w = .ok (.value v') w' ∧ Lays P m w w' ob vf v' := by
  obtain ⟨dst, op, type, pos, after, guard⟩ := o
  cases op
  case alloc elem =>
    simp only [evA] at h
    split at h
    · rename_i z hz
      simp only [Option.some.injEq, Prod.mk.injEq] at h
      obtain ⟨rfl, rfl⟩ := h
      obtain ⟨_, _, _, hp⟩ := zeroOf_some hz
      refine ⟨.pointer (some ⟨w.heap.size, 0, none⟩), { w with heap := w.heap.push (.cells z.cells elem) }, ?_, ?_⟩
      · simp only [execOp, Instr.alloc, Sem.run_bind, run_zeroValue hz, Result.andThen_ok, newVar, newRow, run_newObj, Sem.run_pure]
      · rw [cellsOfV_eq]
        refine lays_cells (C := z.cells) (fz := (0, 0)) rfl rfl rfl rfl (by simp) (.inl rfl) ?_ (fun id m' _ hid => ?_)
        · have := VR.cells (VR.refl_plain m z hp)
          rw [cellsOfV_eq] at this
          exact this.arr
        · exact .ptr hid
    · cases h
  case box elem x =>
    simp only [evA] at h
    split at h
    · rename_i v hx
      simp only [Option.some.injEq, Prod.mk.injEq] at h
      obtain ⟨rfl, rfl⟩ := h
      have hv := VR.cells (opnd_vr hF hx)
      refine ⟨.pointer (some ⟨w.heap.size, 0, none⟩), { w with heap := w.heap.push (.cells (a.eval x).cells elem) }, ?_, ?_⟩
      · simp only [execOp, Instr.box, Sem.run_bind, newVar, newRow, run_newObj, Sem.run_pure, Result.andThen_ok]
      · refine lays_cells (C := (a.eval x).cells) (fz := (0, 0)) rfl rfl rfl rfl ?_ (.inl rfl) hv.arr (fun id m' _ hid => ?_)
        · have := hv.length
          simp at this
          omega
        · exact .ptr hid
    · cases h
  case buildSlice t len parts =>
    simp only [evA] at h
    split at h
    · rename_i e size bytes he
      obtain ⟨hb, h⟩ := bif_some' h
      obtain ⟨hb1, hb2⟩ := and_true hb
      have hb1 := ble_true hb1
      have hb2 := blt_true hb2
      split at h
      · rename_i z ps hz hps
        split at h
        · rename_i cs hcs
          simp only [Option.some.injEq, Prod.mk.injEq] at h
          obtain ⟨rfl, rfl⟩ := h
          obtain ⟨hu, i, hi, hs, _⟩ := elemInfo_some he
          obtain ⟨z0, hz0, hr, hpl, hpos⟩ := zeroRow_some hz
          have hps' := partsOf_vr hF hps
          obtain ⟨cs', hf, hcs'⟩ := fill_vr (cs' := ⟨z⟩) hps' (VRs.refl_plain m z hpl) hcs
          have hsz : P.cellsOf e = size := by rw [cellsOf_info hi, hs]
          have hlb : len ≤ 65536 := Nat.le_trans (Nat.le_mul_of_pos_right _ hb2) hb1
          refine ⟨.slice (some ⟨w.heap.size, 0, none⟩) len len, { w with heap := w.heap.push (.cells cs' e) }, ?_, ?_⟩
          · have hps'' : parts.toList.map (fun (i, x) => (i, a.eval x)) = (parts.map fun (i, x) => (i, a.eval x)).toList := by simp
            have hno : ¬ (len * size > 2 ^ 24) := by omega
            rw [hps''] at hf
            by_cases h0 : len * size = 0
            · have harr : (Array.range (len * size)).map ((#[] : Array Value)[· % (#[] : Array Value).size]!) = ⟨z⟩ := by
                rw [hr, h0]
                simp
              simp only [execOp, Instr.buildSlice, Sem.run_bind, run_underlying hu, Result.andThen_ok, run_sizeOf hi, hs, if_neg hno, if_pos h0, Array.toList_map, Sem.run_pure]
              simp only [harr]
              simp only [Array.toList_map] at hf
              simp [hf, newRow]
            · have harr : (Array.range (len * size)).map (z0.cells[· % z0.cells.size]!) = ⟨z⟩ := by
                apply Array.ext'
                rw [hr]
              simp only [execOp, Instr.buildSlice, Sem.run_bind, run_underlying hu, Result.andThen_ok, run_sizeOf hi, hs, if_neg hno, if_neg h0, Sem.run_pure, run_zeroValue hz0]
              simp only [harr, hf, newRow, Sem.run_bind, run_newObj, Result.andThen_ok, Sem.run_pure]
          · refine lays_cells (C := cs') (fz := (0, 0)) rfl rfl rfl rfl ?_ (.inl rfl) hcs'.arr (fun id m' _ hid => ?_)
            · have := hcs'.length
              simp at this ⊢
              omega
            · refine .slice hid (.inl ⟨?_, rfl⟩) (Nat.le_refl _) (.inl (by simp))
              exact notElastic_le (c := 65536) (by decide +kernel) hlb
        · cases h
      · cases h
    · cases h
  case makeMap t r =>
    cases r with
    | some r => simp [evA] at h
    | none =>
      simp only [evA, Option.some.injEq, Prod.mk.injEq] at h
      obtain ⟨rfl, rfl⟩ := h
      refine ⟨.map (some w.heap.size), { w with heap := w.heap.push (.map #[] 0) }, ?_, rfl, rfl, rfl, ⟨_, rfl⟩, ⟨w.heap.size, 0, 0, 0⟩, rfl, fun id m' _ hid => ⟨⟨rfl, #[], by simp, .nil⟩, .map hid⟩⟩
      simp only [execOp, Option.map_none, Sem.run_bind]
      rfl
  case convert src dst x =>
    simp only [evA] at h
    split at h
    · rename_i e s hs hd hx
      split at h
      · rename_i he
        obtain ⟨h1, h⟩ := bif_some' h
        have h1 := beq_true h1
        simp only [Option.some.injEq, Prod.mk.injEq] at h
        obtain ⟨rfl, rfl⟩ := h
        have hv := opnd_vr hF hx
        have hr := run_bytes_of_string w src dst e s hs hd he
        simp only [execOp]
        generalize a.eval x = x' at *
        cases hv
        refine ⟨_, _, run_valued hr, ?_⟩
        have hge := grownCap_le w s.size 0 e
        have hsize : (bytesRow s (grownCap w s.size 0 e)).size = grownCap w s.size 0 e := by
          have e0 : s.data.size = s.size := rfl
          simp [bytesRow, e0]
          omega
        refine lays_cells (C := bytesRow s (grownCap w s.size 0 e)) rfl rfl rfl rfl ?_ (.inr rfl) ?_ (fun id m' _ hid => ?_)
        · rw [hsize]
          have e0 : s.data.size = s.size := rfl
          simp [e0]
          omega
        · intro i v hi
          refine ⟨v, ?_, ?_⟩
          · have hlt : i < s.data.size := by
              have := (List.getElem?_eq_some_iff.1 hi).1
              simpa using this
            unfold bytesRow
            rw [Array.getElem?_append_left (by simpa using hlt)]
            simpa using hi
          · obtain ⟨bb, hbb⟩ : ∃ bb : UInt8, v = .int .u8 (bb.toNat : Int) := by
              rw [List.getElem?_map] at hi
              cases hs2 : s.data.toList[i]? with
              | none => simp [hs2] at hi
              | some bb => simp [hs2] at hi; exact ⟨bb, hi.symm⟩
            rw [hbb]
            exact .int _ _
        · refine .slice hid (.inr ⟨by decide +kernel, ?_⟩) hge (.inl (by simp))
          simp only [h1, hsize]
          omega
      · cases h
    · cases h
  all_goals simp [evA] at h
end
end Ev
end Go
namespace Go
namespace Ev
section
variable {P : Program} {m : Mp} {A : AW} {w w' : World}

theorem get_set {A : AW} {k : Nat} (o : AObj) (i : Nat) (hk : k < top4) : (A.set k o).get i = if i = k then some o else A.get i := get_put4 (some o) k i A.heap hk
theorem get_kill {A : AW} {k : Nat} (i : Nat) (hk : k < top4) : (A.kill k).get i = if i = k then none else A.get i := get_put4 none k i A.heap hk
theorem new_some {A A' : AW} {o : AObj} {id : Nat} (h : A.new o = some (id, A')) : id = A.next ∧ A.next < top4 ∧ A'.next = A.next + 1 ∧ ∀ i, A'.get i = if i = id then some o else A.get i := by
  unfold AW.new at h
  obtain ⟨h1, h⟩ := bif_some' h
  have h1 := blt_true h1
  simp only [Option.some.injEq, Prod.mk.injEq] at h
  obtain ⟨rfl, rfl⟩ := h
  exact ⟨rfl, h1, rfl, fun i => get_put4 (some o) A.next i A.heap h1⟩

def Mp.put (m : Mp) (id : Nat) (l : Loc) : Mp := fun i => if i = id then some l else m i
theorem Mp.put_same (m : Mp) (id : Nat) (l : Loc) : m.put id l id = some l := by simp [Mp.put]
theorem Mp.le_put {m : Mp} {id : Nat} (h : m id = none) (l : Loc) : m.le (m.put id l) := fun i x hi => by
  unfold Mp.put
  split
  · rename_i e
    rw [e, h] at hi
    cases hi
  · exact hi

theorem HR.none_next (h : HR P m A w) : m A.next = none := by
  cases hm : m A.next with
  | none => rfl
  | some l => exact absurd (h.dom _ _ hm) (Nat.lt_irrefl _)
theorem HR.blk_lt (h : HR P m A w) {i : Nat} {o : AObj} {l : Loc} (hg : A.get i = some o) (hm : m i = some l) : l.blk < w.heap.size := (h.obj i o l hg hm).lt

theorem push_get {h : Array Obj} {o : Obj} {j : Nat} (hj : j < h.size) : (h.push o)[j]? = h[j]? := by
  rw [Array.getElem?_push_lt hj, Array.getElem?_eq_getElem hj]

/-- A block more. -/
theorem hr_new {ob : AObj} {vf : Nat → Value} {v' : Value} {id : Nat} {A' : AW} (h : HR P m A w) (hn : A.new ob = some (id, A')) (hl : Lays P m w w' ob vf v') :
    ∃ m', HR P m' A' w' ∧ Ext A m w A' m' w' ∧ VR m' (vf id) v' := by
  obtain ⟨rfl, htop, hnext, hget⟩ := new_some hn
  obtain ⟨obj, hheap⟩ := hl.heap
  obtain ⟨loc, hblk, hrel⟩ := hl.rel
  have hnone := h.none_next
  have hle := Mp.le_put hnone loc
  obtain ⟨ho, hv⟩ := hrel A.next (m.put A.next loc) hle (Mp.put_same _ _ _)
  have hold : ∀ j, j < w.heap.size → w'.heap[j]? = w.heap[j]? := fun j hj => by rw [hheap]; exact push_get hj
  refine ⟨m.put A.next loc, ⟨by omega, ?_, ?_, ?_, ?_⟩, ⟨hle, by omega, ?_, by rw [hheap]; simp, ?_, hl.tape, hl.os, hl.out⟩, hv⟩
  · intro i o hi
    rw [hget] at hi
    split at hi
    · omega
    · have := h.live i o hi; omega
  · intro i l hi
    unfold Mp.put at hi
    split at hi
    · omega
    · have := h.dom i l hi; omega
  · intro i j oi oj li lj hi hj hmi hmj hb
    rw [hget] at hi hj
    unfold Mp.put at hmi hmj
    split at hi
    · rename_i ei
      rw [if_pos ei] at hmi
      simp only [Option.some.injEq] at hmi
      subst hmi
      split at hj
      · omega
      · rename_i ej
        rw [if_neg ej] at hmj
        have := h.blk_lt hj hmj
        omega
    · rename_i ei
      rw [if_neg ei] at hmi
      split at hj
      · rename_i ej
        rw [if_pos ej] at hmj
        simp only [Option.some.injEq] at hmj
        subst hmj
        have := h.blk_lt hi hmi
        omega
      · rename_i ej
        rw [if_neg ej] at hmj
        exact h.inj i j oi oj li lj hi hj hmi hmj hb
  · intro i o l hi hm
    rw [hget] at hi
    unfold Mp.put at hm
    split at hi
    · rename_i ei
      rw [if_pos ei] at hm
      simp only [Option.some.injEq] at hm hi
      subst hm
      subst hi
      exact ho
    · rename_i ei
      rw [if_neg ei] at hm
      exact (h.obj i o l hi hm).mono hle (hold _ (h.blk_lt hi hm))
  · intro i l hmi hmi'
    unfold Mp.put at hmi'
    split at hmi'
    · omega
    · rw [hmi] at hmi'; cases hmi'
  · intro r hr hno
    refine ⟨hold r hr, ?_⟩
    rintro ⟨i, o, l, hi, hm, hb⟩
    rw [hget] at hi
    unfold Mp.put at hm
    split at hi
    · rename_i ei
      rw [if_pos ei] at hm
      simp only [Option.some.injEq] at hm
      subst hm
      omega
    · rename_i ei
      rw [if_neg ei] at hm
      exact hno ⟨i, o, l, hi, hm, hb⟩

/-- The machine's world but for one block. -/
structure ButAt (w w' : World) (r : Nat) : Prop where
  tape : w'.tape = w.tape
  os : w'.os = w.os
  out : w'.output = w.output
  size : w'.heap.size = w.heap.size
  heap : ∀ j, j ≠ r → w'.heap[j]? = w.heap[j]?

/-- A block turned. -/
theorem hr_set {b : Nat} {o0 o1 : AObj} {l : Loc} (h : HR P m A w) (hg : A.get b = some o0) (hm : m b = some l) (hw : ButAt w w' l.blk) (ho : ObjR P m w'.heap o1 l) :
    HR P m (A.set b o1) w' ∧ Ext A m w (A.set b o1) m w' := by
  have hb := Nat.lt_of_lt_of_le (h.live b o0 hg) h.top
  have hget := fun i => get_set (A := A) o1 i hb
  refine ⟨⟨h.top, ?_, h.dom, ?_, ?_⟩, ⟨Mp.le_refl m, Nat.le_refl _, fun i l h1 h2 => (by rw [h1] at h2; cases h2), by rw [hw.size]; exact Nat.le_refl _, ?_, hw.tape, hw.os, hw.out⟩⟩
  · intro i o hi
    rw [hget] at hi
    split at hi
    · rename_i e; rw [e]; exact h.live b o0 hg
    · exact h.live i o hi
  · intro i j oi oj li lj hi hj hmi hmj hbl
    have li' : ∃ o, A.get i = some o := by
      rw [hget] at hi
      split at hi
      · rename_i e; rw [e]; exact ⟨_, hg⟩
      · exact ⟨_, hi⟩
    have lj' : ∃ o, A.get j = some o := by
      rw [hget] at hj
      split at hj
      · rename_i e; rw [e]; exact ⟨_, hg⟩
      · exact ⟨_, hj⟩
    obtain ⟨_, hi'⟩ := li'
    obtain ⟨_, hj'⟩ := lj'
    exact h.inj i j _ _ li lj hi' hj' hmi hmj hbl
  · intro i o li hi hmi
    rw [hget] at hi
    split at hi
    · rename_i e
      subst e
      rw [hm] at hmi
      simp only [Option.some.injEq] at hi hmi
      subst hi
      subst hmi
      exact ho
    · rename_i e
      have hne : li.blk ≠ l.blk := fun hh => e (h.inj i b o o0 li l hi hg hmi hm hh)
      exact (h.obj i o li hi hmi).mono (Mp.le_refl m) (hw.heap _ hne)
  · intro r hr hno
    have hrl : r ≠ l.blk := fun e => hno ⟨b, o0, l, hg, hm, e.symm⟩
    refine ⟨hw.heap r hrl, ?_⟩
    rintro ⟨i, o, li, hi, hmi, hbl⟩
    rw [hget] at hi
    split at hi
    · rename_i e
      exact hno ⟨i, o0, li, by rw [e]; exact hg, hmi, hbl⟩
    · exact hno ⟨i, o, li, hi, hmi, hbl⟩

/-- A block of the machine's turned; the evaluator's is as it was. -/
theorem hr_touch {b : Nat} {o0 : AObj} {l : Loc} (h : HR P m A w) (hg : A.get b = some o0) (hm : m b = some l) (hw : ButAt w w' l.blk) (ho : ObjR P m w'.heap o0 l) :
    HR P m A w' ∧ Ext A m w A m w' := by
  refine ⟨⟨h.top, h.live, h.dom, h.inj, ?_⟩, ⟨Mp.le_refl m, Nat.le_refl _, fun i l h1 h2 => (by rw [h1] at h2; cases h2), by rw [hw.size]; exact Nat.le_refl _, ?_, hw.tape, hw.os, hw.out⟩⟩
  · intro i o li hi hmi
    by_cases e : i = b
    · subst e
      rw [hm] at hmi
      rw [hg] at hi
      simp only [Option.some.injEq] at hi hmi
      subst hi
      subst hmi
      exact ho
    · have hne : li.blk ≠ l.blk := fun hh => e (h.inj i b o o0 li l hi hg hmi hm hh)
      exact (h.obj i o li hi hmi).mono (Mp.le_refl m) (hw.heap _ hne)
  · intro r hr hno
    have hrl : r ≠ l.blk := fun e => hno ⟨b, o0, l, hg, hm, e.symm⟩
    exact ⟨hw.heap r hrl, hno⟩

/-- A block is let go. -/
theorem hr_kill {b : Nat} (h : HR P m A w) (hb : b < top4) : HR P m (A.kill b) w ∧ Ext A m w (A.kill b) m w := by
  have hget := fun i => get_kill (A := A) i hb
  have back : ∀ {i o}, (A.kill b).get i = some o → A.get i = some o := fun {i o} hi => by
    rw [hget] at hi
    split at hi
    · cases hi
    · exact hi
  exact ⟨⟨h.top, fun i o hi => h.live i o (back hi), h.dom, fun i j oi oj li lj hi hj => h.inj i j oi oj li lj (back hi) (back hj), fun i o l hi => h.obj i o l (back hi)⟩,
    ⟨Mp.le_refl m, Nat.le_refl _, fun i l h1 h2 => (by rw [h1] at h2; cases h2), Nat.le_refl _, fun r _ hno => ⟨rfl, fun ⟨i, o, l, hi, hm, hbl⟩ => hno ⟨i, o, l, back hi, hm, hbl⟩⟩, rfl, rfl, rfl⟩⟩

/-- A block goes on under another number, in the same place of the machine's. -/
theorem hr_move {b : Nat} {o0 o1 : AObj} {l l1 : Loc} {id : Nat} {A' : AW} (h : HR P m A w) (hg : A.get b = some o0) (hm : m b = some l) (hn : (A.kill b).new o1 = some (id, A')) (hw : ButAt w w' l.blk)
    (hl1 : l1.blk = l.blk) (ho : ∀ m', m.le m' → m' id = some l1 → ObjR P m' w'.heap o1 l1) :
    ∃ m', HR P m' A' w' ∧ Ext A m w A' m' w' ∧ m.le m' ∧ m' id = some l1 := by
  have hb := Nat.lt_of_lt_of_le (h.live b o0 hg) h.top
  obtain ⟨hid, htop, hnext, hget⟩ := new_some hn
  have hkn : (A.kill b).next = A.next := rfl
  rw [hkn] at hid htop hnext
  subst hid
  have hget' : ∀ i, A'.get i = if i = A.next then some o1 else if i = b then none else A.get i := fun i => by rw [hget, get_kill i hb]
  have hnone := h.none_next
  have hle := Mp.le_put hnone l1
  have hps := Mp.put_same m A.next l1
  have hbn : b ≠ A.next := fun e => by have := h.live b o0 hg; omega
  have old : ∀ {i : Nat} {o : AObj} {li : Loc}, A'.get i = some o → m.put A.next l1 i = some li → (i = A.next ∧ o = o1 ∧ li = l1) ∨ (i ≠ A.next ∧ i ≠ b ∧ A.get i = some o ∧ m i = some li) := by
    intro i o li hi hmi
    rw [hget'] at hi
    unfold Mp.put at hmi
    by_cases e : i = A.next
    · rw [if_pos e] at hi hmi
      simp only [Option.some.injEq] at hi hmi
      exact .inl ⟨e, hi.symm, hmi.symm⟩
    · rw [if_neg e] at hi hmi
      by_cases e2 : i = b
      · rw [if_pos e2] at hi; cases hi
      · rw [if_neg e2] at hi
        exact .inr ⟨e, e2, hi, hmi⟩
  have hne : ∀ {i : Nat} {o : AObj} {li : Loc}, i ≠ b → A.get i = some o → m i = some li → li.blk ≠ l.blk := fun hib hi hmi hh => hib (h.inj _ _ _ _ _ _ hi hg hmi hm hh)
  refine ⟨m.put A.next l1, ⟨by omega, ?_, ?_, ?_, ?_⟩, ⟨hle, by omega, ?_, by rw [hw.size]; exact Nat.le_refl _, ?_, hw.tape, hw.os, hw.out⟩, hle, hps⟩
  · intro i o hi
    rw [hget'] at hi
    split at hi
    · omega
    · split at hi
      · cases hi
      · have := h.live i o hi; omega
  · intro i li hi
    unfold Mp.put at hi
    split at hi
    · omega
    · have := h.dom i li hi; omega
  · intro i j oi oj li lj hi hj hmi hmj hbl
    rcases old hi hmi with ⟨e1, _, e2⟩ | ⟨e1, e2, e3, e4⟩ <;> rcases old hj hmj with ⟨f1, _, f2⟩ | ⟨f1, f2, f3, f4⟩
    · omega
    · exact absurd (by rw [← hbl, e2, hl1]) (hne f2 f3 f4)
    · exact absurd (by rw [hbl, f2, hl1]) (hne e2 e3 e4)
    · exact h.inj i j oi oj li lj e3 f3 e4 f4 hbl
  · intro i o li hi hmi
    rcases old hi hmi with ⟨e1, e2, e3⟩ | ⟨e1, e2, e3, e4⟩
    · rw [e2, e3]
      exact ho _ hle hps
    · exact (h.obj i o li e3 e4).mono hle (hw.heap _ (hne e2 e3 e4))
  · intro i li h1 h2
    unfold Mp.put at h2
    split at h2
    · omega
    · rw [h1] at h2; cases h2
  · intro r hr hno
    have hrl : r ≠ l.blk := fun e => hno ⟨b, o0, l, hg, hm, e.symm⟩
    refine ⟨hw.heap r hrl, ?_⟩
    rintro ⟨i, o, li, hi, hmi, hbl⟩
    rcases old hi hmi with ⟨e1, e2, e3⟩ | ⟨e1, e2, e3, e4⟩
    · rw [e3, hl1] at hbl; exact hrl hbl.symm
    · exact hno ⟨i, o, li, e3, e4, hbl⟩
end
end Ev
end Go
namespace Go
namespace Ev

theorem lay_some : ∀ {vs : List Value} {o : Nat} {c r : List Value}, lay vs o c = some r → o + vs.length ≤ c.length ∧ r = c.take o ++ vs ++ c.drop (o + vs.length)
  | vs, o + 1, c, r, h => by
    cases c with
    | nil => simp [lay] at h
    | cons x c =>
      simp only [lay] at h
      split at h
      · rename_i r0 h0
        simp only [Option.some.injEq] at h
        subst h
        obtain ⟨h1, h2⟩ := lay_some h0
        refine ⟨by simp; omega, ?_⟩
        rw [h2, show o + 1 + vs.length = (o + vs.length) + 1 by omega]
        simp
      · cases h
  | [], 0, c, r, h => by
    unfold lay at h
    simp only [Option.some.injEq] at h
    subst h
    simp
  | v :: vs, 0, c, r, h => by
    cases c with
    | nil => simp [lay] at h
    | cons x c =>
      unfold lay at h
      simp only at h
      split at h
      · rename_i r0 h0
        simp only [Option.some.injEq] at h
        subst h
        obtain ⟨h1, h2⟩ := lay_some h0
        refine ⟨by simp at h1 ⊢; omega, ?_⟩
        rw [h2]
        simp
      · cases h

theorem noAgg_one {v v' : Value} {m : Mp} (h : VR m v v') (hn : noAgg v = true) : v'.oneCell' = true := by
  cases h <;> first | rfl | cases hn

section
variable {P : Program} {m : Mp} {A : AW} {w w' : World} {fr : AFr} {a : Act}

theorem vrs_one : ∀ {vs vs' : List Value} (_ : VRs m vs vs'), vs.all noAgg = true → ∀ v ∈ vs', v.oneCell' = true
  | _, _, .nil, _ => by simp
  | _, _, .cons hv hl, h => by
    simp only [List.all_cons, Bool.and_eq_true] at h
    intro v hm
    rcases List.mem_cons.1 hm with rfl | hm
    · exact noAgg_one hv h.1
    · exact vrs_one hl h.2 v hm

def splice (C : Array Value) (k : Nat) (vs : List Value) : Array Value := (C.toList.take k ++ vs ++ C.toList.drop (k + vs.length)).toArray

theorem splice_size {C : Array Value} {k : Nat} {vs : List Value} (h : k + vs.length ≤ C.size) : (splice C k vs).size = C.size := by
  simp [splice]
  omega
theorem splice_get {C : Array Value} {k : Nat} {vs : List Value} (h : k + vs.length ≤ C.size) (i : Nat) :
    (splice C k vs)[i]? = if i < k then C[i]? else if i < k + vs.length then vs[i - k]? else C[i]? := by
  have hk : k ≤ C.toList.length := by simp; omega
  simp only [splice, List.getElem?_toArray]
  by_cases h1 : i < k
  · rw [if_pos h1, List.append_assoc, List.getElem?_append_left (by simp; omega), List.getElem?_take_of_lt h1]
    simp
  · rw [if_neg h1]
    by_cases h2 : i < k + vs.length
    · rw [if_pos h2, List.getElem?_append_left (by simp; omega), List.getElem?_append_right (by simp; omega)]
      simp
      congr 1
      simp at hk
      omega
    · rw [if_neg h2, List.getElem?_append_right (by simp; omega), List.getElem?_drop]
      simp
      congr 1
      simp at hk
      omega

/-- Cells are stored. -/
theorem run_storeRow (g o : Nat) (e : TypeId) (fz : Nat × Nat) : ∀ (vs : List Value) (i : Nat) (cur : Array Value) (w : World), w.heap[g]? = some (.cells cur e fz) → (fz = (0, 0) ∨ fz = (cur.size, cur.size + 1)) →
    o + i + vs.length ≤ cur.size → (∀ v ∈ vs, v.oneCell' = true) → (storeCells ⟨g, o, none⟩ vs i).run P w = .ok () (w.setRow g (splice cur (o + i) vs))
  | [], i, cur, w, hg, _, _, _ => by
    simp only [storeCells, splice, List.append_nil, List.length_nil, Nat.add_zero, List.take_append_drop, Array.toArray_toList]
    rw [setRow_self w g cur e fz hg]
    rfl
  | v :: rest, i, cur, w, hg, hz, hl, h1 => by
    have hi : o + i < cur.size := by simp at hl; omega
    have hcell : w.cell? ⟨g, o + i, none⟩ = some cur[o + i] := by simp [World.cell?, hg, hi]
    have hfro : w.frozen? ⟨g, o + i, none⟩ = false := by
      rcases hz with rfl | rfl
      · simp [World.frozen?, hg]
      · simp [World.frozen?, hg]; omega
    have hst : (store ((⟨g, o, none⟩ : Addr).add i) v).run P w = .ok () (w.setRow g (cur.setIfInBounds (o + i) v)) := by
      rw [addr_add, run_store P w _ v _ (h1 v (by simp)), hcell]
      simp [hfro, setCell_eq_setRow w g (o + i) cur e fz v hg]
    have ih := run_storeRow g o e fz rest (i + 1) (cur.setIfInBounds (o + i) v) (w.setRow g (cur.setIfInBounds (o + i) v)) (setRow_heap w g cur _ e _ hg) (by simpa using hz) (by simp at hl ⊢; omega) (fun x hx => h1 x (by simp [hx]))
    simp only [storeCells, Sem.run_bind, hst, Result.andThen_ok, ih, setRow_setRow]
    congr 2
    apply Array.ext_getElem?
    intro j
    have hl' : o + i + (v :: rest).length ≤ cur.size := hl
    rw [splice_get (by simp at hl ⊢; omega), splice_get hl']
    simp only [List.length_cons]
    by_cases j1 : j < o + i
    · rw [if_pos (by omega), if_pos j1, Array.getElem?_setIfInBounds_ne (by omega)]
    · rw [if_neg j1]
      by_cases j2 : j = o + i
      · subst j2
        rw [if_pos (by omega), if_pos (by omega)]
        simp [hi]
      · rw [if_neg (by omega)]
        by_cases j3 : j < o + i + (rest.length + 1)
        · rw [if_pos (by omega), if_pos j3]
          rw [show j - (o + i) = (j - (o + (i + 1))) + 1 by omega]
          simp
        · rw [if_neg (by omega), if_neg j3, Array.getElem?_setIfInBounds_ne (by omega)]

theorem butAt_setRow (w : World) (g : Nat) (cs : Array Value) : ButAt w (w.setRow g cs) g := ⟨rfl, rfl, rfl, by simp, fun j hj => setRow_other w g j cs hj⟩

/-- A row of cells is laid over others, by both. -/
theorem hr_lay {b o : Nat} {c c' : List Value} {e : TypeId} {l : Loc} {vs vs' : List Value} (h : HR P m A w) (hg : A.get b = some (.cells c e)) (hm : m b = some l) (hv : VRs m vs vs') (hn : vs.all noAgg = true)
    (hl : lay vs o c = some c') :
    ∃ w', (storeCells ⟨l.blk, l.off + o, none⟩ vs' 0).run P w = .ok () w' ∧ HR P m (A.set b (.cells c' e)) w' ∧ Ext A m w (A.set b (.cells c' e)) m w' := by
  obtain ⟨h1, h2⟩ := lay_some hl
  obtain ⟨hsz, hlim, C, e', fz, hC, hfit, hz, hcells⟩ := h.obj b _ l hg hm
  have hlen := hv.length
  have hfit' : l.off + o + vs'.length ≤ C.size := by omega
  refine ⟨w.setRow l.blk (splice C (l.off + o) vs'), run_storeRow l.blk (l.off + o) e' fz vs' 0 C w hC hz (by simpa using hfit') (vrs_one hv hn), ?_⟩
  refine hr_set h hg hm (butAt_setRow _ _ _) ⟨hsz, ?_, _, e', fz, setRow_heap w l.blk C _ e' fz hC, ?_, ?_, ?_⟩
  · rw [h2]; simp; omega
  · rw [splice_size hfit']; exact hfit
  · rw [splice_size hfit']; exact hz
  · intro i v hi
    rw [splice_get hfit']
    rw [h2] at hi
    by_cases i1 : i < o
    · rw [if_pos (by omega)]
      rw [List.append_assoc, List.getElem?_append_left (by simp; omega), List.getElem?_take_of_lt i1] at hi
      exact hcells i v hi
    · rw [if_neg (by omega)]
      by_cases i2 : i < o + vs.length
      · rw [if_pos (by omega)]
        rw [List.getElem?_append_left (by simp; omega), List.getElem?_append_right (by simp; omega)] at hi
        have : (c.take o).length = o := by simp; omega
        rw [this] at hi
        obtain ⟨v', h3, h4⟩ := hv.get _ hi
        exact ⟨v', by rw [show l.off + i - (l.off + o) = i - o by omega]; exact h3, h4⟩
      · rw [if_neg (by omega)]
        rw [List.getElem?_append_right (by simp; omega), List.getElem?_drop] at hi
        refine hcells i v ?_
        rw [← hi]
        congr 1
        simp
        omega

def Wrote (P : Program) (m : Mp) (A : AW) (w : World) (s : Sem Next) (v : Value) (A' : AW) : Prop :=
  ∃ m' v' w', (s.run P w = .ok (.value v') w' ∨ (s.run P w = .ok .skip w' ∧ v' = undef)) ∧ VR m' v v' ∧ HR P m' A' w' ∧ Ext A m w A' m' w'

theorem ok_store {t ty : TypeId} {x y : Operand} {v : Value} {A' : AW} (hH : HR P m A w) (hF : FR m fr a) (h : evW P fr A ty (.store t x y) = some (v, A')) :
    ∃ w', (Instr.storeAt t (a.eval x) (a.eval y)).run P w = .ok () w' ∧ v = undef ∧ HR P m A' w' ∧ Ext A m w A' m w' := by
  simp only [evW] at h
  split at h
  rotate_left
  · cases h
  rename_i b o v0 i hx hy hi
  have hxv := opnd_vr hF hx
  have hyv := opnd_vr hF hy
  generalize a.eval x = x' at *
  generalize a.eval y = y' at *
  split at h
  rotate_left
  · cases h
  rename_i A1 hst
  simp only [Option.some.injEq, Prod.mk.injEq] at h
  obtain ⟨rfl, rfl⟩ := h
  unfold storeAt at hst
  split at hst
  rotate_left
  · cases hst
  rename_i c e hg
  obtain ⟨hq, hst⟩ := bif_some' hst
  obtain ⟨hq1, hq2⟩ := and_true hq
  have hq1 := beq_true hq1
  split at hst
  rotate_left
  · cases hst
  rename_i c' hl
  simp only [Option.some.injEq] at hst
  subst hst
  cases hxv
  rename_i l hm
  have hcl := VR.cells hyv
  obtain ⟨w', h1, h2, h3⟩ := hr_lay hH hg hm hcl hq2 hl
  refine ⟨w', ?_, rfl, h2, h3⟩
  have hs : y'.cells.size = i.size := by
    have := hcl.length
    simp at this
    omega
  simp only [Instr.storeAt, Instr.sureAddr, Sem.run_bind, Sem.run_pure, Result.andThen_ok, storeVar, run_sizeOf hi, hs, ne_eq, not_true, if_false, h1]
end
end Ev
end Go
namespace Go
namespace Ev
section
variable {P : Program} {m : Mp} {A : AW} {w w' : World} {fr : AFr} {a : Act}

theorem Wrote.of_new {s : Sem Next} {ob : AObj} {vf : Nat → Value} {v' : Value} {id : Nat} {A' : AW} (h : HR P m A w) (hn : A.new ob = some (id, A')) (hr : s.run P w = .ok (.value v') w') (hl : Lays P m w w' ob vf v') :
    Wrote P m A w s (vf id) A' := by
  obtain ⟨m', h1, h2, h3⟩ := hr_new h hn hl
  exact ⟨m', v', w', .inl hr, h3, h1, h2⟩

theorem plain_arr {l : List Value} (h : vPlains l = true) : ∀ (i : Nat) (v : Value), l[i]? = some v → VR m v v := fun i v hv => by
  obtain ⟨v', h1, h2⟩ := (VRs.refl_plain m l h).get i hv
  rw [hv] at h1
  simp only [Option.some.injEq] at h1
  subst h1
  exact h2

theorem ok_makeSlice {t ty : TypeId} {x y : Operand} {v : Value} {A' : AW} (hH : HR P m A w) (hF : FR m fr a) (h : evW P fr A ty (.makeSlice t x y) = some (v, A')) :
    Wrote P m A w (do pure (Next.value (← Instr.makeSlice t (a.eval x) (a.eval y)))) v A' := by
  simp only [evW] at h
  split at h
  rotate_left
  · cases h
  rename_i e size bytes kl l kc c he hx hy
  have hxv := opnd_vr hF hx
  have hyv := opnd_vr hF hy
  generalize a.eval x = x' at *
  generalize a.eval y = y' at *
  obtain ⟨hq, h⟩ := bif_some' h
  obtain ⟨hq, q3⟩ := and_true hq
  obtain ⟨q1, q2⟩ := and_true hq
  have q1 := ble_true q1
  have q2 := ble_true q2
  have q3 := ble_true q3
  split at h
  rotate_left
  · cases h
  rename_i z hz
  split at h
  rotate_left
  · cases h
  rename_i id A1 hn
  simp only [Option.some.injEq, Prod.mk.injEq] at h
  obtain ⟨rfl, rfl⟩ := h
  cases hxv
  cases hyv
  obtain ⟨hu, i, hi, hs, hb⟩ := elemInfo_some he
  obtain ⟨z0, hz0, hzr, hpl, hpos⟩ := zeroRow_some hz
  have wl : IntKind.i64.wrap (Int.ofNat l) = Int.ofNat l := wrap_i64_small l (by omega)
  have wc : IntKind.i64.wrap (Int.ofNat c) = Int.ofNat c := wrap_i64_small c (by omega)
  have hbc : bytes * c ≤ 65536 * 65536 := Nat.mul_le_mul q3 q2
  have hrow : ∃ C : Array Value, C = ⟨z⟩ ∧ (Instr.makeSlice t (.int kl (.ofNat l)) (.int kc (.ofNat c))).run P w = .ok (.slice (some ⟨w.heap.size, 0, none⟩) l c) { w with heap := w.heap.push (.cells C e) } := by
    refine ⟨⟨z⟩, rfl, ?_⟩
    have c1 : ¬ ((bytes : Int) * (c : Int) > 2 ^ 48) := by
      have : (bytes : Int) * (c : Int) = ((bytes * c : Nat) : Int) := by simp
      rw [this]
      have : (2 : Int) ^ 48 = 281474976710656 := by decide
      omega
    have c2 : ¬ ((l : Int) > (c : Int)) := by omega
    by_cases h0 : c * size = 0
    · have harr : (Array.range (c * size)).map ((#[] : Array Value)[· % (#[] : Array Value).size]!) = ⟨z⟩ := by
        rw [hzr, h0]
        simp
      simp only [Instr.makeSlice, asInt, asIntOf, Sem.run_bind, run_underlying hu, Result.andThen_ok, Sem.run_pure, typeInfo, run_program, hi, hb, wl, wc]
      have g : ((decide (Int.ofNat c < 0) || decide ((bytes : Int) * Int.ofNat c > 2 ^ 48)) || decide (Int.ofNat l < 0) || decide (Int.ofNat l > Int.ofNat c)) = false := by
        simp only [Bool.or_eq_false_iff, decide_eq_false_iff_not]
        refine ⟨⟨⟨by simp, c1⟩, by simp⟩, c2⟩
      simp only [g, Bool.false_eq_true, if_false, Sem.run_bind, run_askRoom, Result.andThen_ok, run_sizeOf hi, hs]
      have : (Int.ofNat c).toNat = c := rfl
      simp only [this, if_pos h0, Sem.run_pure, Result.andThen_ok, Sem.run_bind]
      simp only [harr, newRow, Sem.run_bind, run_newObj, Result.andThen_ok, Sem.run_pure]
      rfl
    · have harr : (Array.range (c * size)).map (z0.cells[· % z0.cells.size]!) = ⟨z⟩ := by
        apply Array.ext'
        rw [hzr]
      simp only [Instr.makeSlice, asInt, asIntOf, Sem.run_bind, run_underlying hu, Result.andThen_ok, Sem.run_pure, typeInfo, run_program, hi, hb, wl, wc]
      have g : ((decide (Int.ofNat c < 0) || decide ((bytes : Int) * Int.ofNat c > 2 ^ 48)) || decide (Int.ofNat l < 0) || decide (Int.ofNat l > Int.ofNat c)) = false := by
        simp only [Bool.or_eq_false_iff, decide_eq_false_iff_not]
        refine ⟨⟨⟨by simp, c1⟩, by simp⟩, c2⟩
      simp only [g, Bool.false_eq_true, if_false, Sem.run_bind, run_askRoom, Result.andThen_ok, run_sizeOf hi, hs]
      have : (Int.ofNat c).toNat = c := rfl
      simp only [this, if_neg h0, Sem.run_pure, Result.andThen_ok, Sem.run_bind, run_zeroValue hz0]
      simp only [harr, newRow, Sem.run_bind, run_newObj, Result.andThen_ok, Sem.run_pure]
      rfl
  obtain ⟨C, rfl, hr⟩ := hrow
  refine Wrote.of_new (vf := fun id => .slice (some ⟨id, 0, none⟩) l c) hH hn (run_valued hr) ?_
  refine lays_cells (C := ⟨z⟩) (fz := (0, 0)) rfl rfl rfl rfl (by simp) (.inl rfl) (fun i v hv => ⟨v, by simpa using hv, plain_arr hpl i v hv⟩) (fun id m' _ hid => ?_)
  exact .slice hid (.inl ⟨notElastic_le (c := 65536) (by decide +kernel) q2, rfl⟩) q1 (.inl (by simp))

theorem ok_convertSame {src dst ty : TypeId} {x : Operand} {v : Value} {A' : AW} (hH : HR P m A w) (hF : FR m fr a) (h : evW P fr A ty (.convert src dst x) = some (v, A')) :
    Wrote P m A w (do pure (Next.value (← convert src dst (a.eval x)))) v A' := by
  simp only [evW] at h
  split at h
  rotate_left
  · cases h
  rename_i e b o l c hu hx
  have hxv := opnd_vr hF hx
  generalize a.eval x = x' at *
  split at h
  rotate_left
  · cases h
  rename_i cs el he hg
  have hh := bif_some' h
  clear h
  obtain ⟨hq, h⟩ := hh
  obtain ⟨hq, hl0⟩ := and_true hq
  have hl0 := blt_true hl0
  have hq' := beq_true hq
  clear hq
  subst hq'
  simp only [Option.some.injEq, Prod.mk.injEq] at h
  obtain ⟨rfl, rfl⟩ := h
  obtain ⟨b', o', lc, c', a', hb', rfl, hm, hc, hl, ha⟩ := hxv.slice_inv
  simp only [Addr.mk.injEq] at hb'
  obtain ⟨rfl, rfl, _⟩ := hb'
  have ha' : a' = ⟨lc.blk, lc.off + o, none⟩ := ha.resolve_right (by omega)
  subst ha'
  obtain ⟨hsz, hlim, C, e', fz, hC, hfit, hz, hcells⟩ := hH.obj b _ lc hg hm
  have hshape : w.shape? lc.blk = some (e', C.size) := by simp [World.shape?, hC]
  have hm1 : (w.freeze ⟨lc.blk, C.size, none⟩ 1).heap[lc.blk]? = some (.cells C e' (C.size, C.size + 1)) := by
    unfold World.freeze
    rw [if_neg (by decide)]
    simp only [Array.getElem?_modify, if_true, hC, Option.map_some]
    rcases hz with rfl | rfl
    · simp
    · simp
  have hbut : ButAt w (w.freeze ⟨lc.blk, C.size, none⟩ 1) lc.blk := by
    unfold World.freeze
    rw [if_neg (by decide)]
    exact ⟨rfl, rfl, rfl, by simp, fun j hj => by simp [Array.getElem?_modify, Ne.symm hj]⟩
  obtain ⟨h1, h2⟩ := hr_touch hH hg hm hbut ⟨hsz, hlim, C, e', _, hm1, hfit, .inr rfl, hcells⟩
  refine ⟨m, _, _, .inl (run_valued (w' := w.freeze ⟨lc.blk, C.size, none⟩ 1) (v' := .slice (some ⟨lc.blk, lc.off + o, none⟩) l c') ?_), hxv, h1, h2⟩
  have hb : (src == src) = true := by simp
  simp only [convert, Sem.run_bind, run_underlying hu, Result.andThen_ok, hb, run_underlying he, markStringish, run_shape, hshape, run_freeze, Sem.run_pure]

theorem ok_range {t ty : TypeId} {x : Operand} {v : Value} {A' : AW} (hH : HR P m A w) (hF : FR m fr a) (h : evW P fr A ty (.range t x) = some (v, A')) :
    Wrote P m A w (do pure (Next.value (← Instr.range t (a.eval x)))) v A' := by
  simp only [evW] at h
  split at h
  · rename_i s hu hx
    have hxv := opnd_vr hF hx
    generalize a.eval x = x' at *
    split at h
    · rename_i id A1 hn
      simp only [Option.some.injEq, Prod.mk.injEq] at h
      obtain ⟨rfl, rfl⟩ := h
      cases hxv
      refine Wrote.of_new (vf := fun id => .pointer (some ⟨id, 0, none⟩)) (v' := .pointer (some ⟨w.heap.size, 0, none⟩)) (w' := { w with heap := w.heap.push (.stringIter s 0) }) hH hn (run_valued ?_) ?_
      · simp only [Instr.range, Sem.run_bind, run_underlying hu, Result.andThen_ok, Sem.run_pure, run_newObj]
      · exact ⟨rfl, rfl, rfl, ⟨_, rfl⟩, ⟨w.heap.size, 0, 0, 0⟩, rfl, fun id m' _ hid => ⟨⟨rfl, heap_push_new _ _⟩, .ptr hid⟩⟩
    · cases h
  · rename_i kt et hu hx
    have hxv := opnd_vr hF hx
    generalize a.eval x = x' at *
    split at h
    · rename_i id A1 hn
      simp only [Option.some.injEq, Prod.mk.injEq] at h
      obtain ⟨rfl, rfl⟩ := h
      cases hxv
      refine Wrote.of_new (vf := fun id => .pointer (some ⟨id, 0, none⟩)) (v' := .pointer (some ⟨w.heap.size, 0, none⟩)) (w' := { w with heap := w.heap.push (.mapIter none 0 #[] 0) }) hH hn (run_valued ?_) ?_
      · simp only [Instr.range, Sem.run_bind, run_underlying hu, Result.andThen_ok, Sem.run_pure, run_newObj]
      · exact ⟨rfl, rfl, rfl, ⟨_, rfl⟩, ⟨w.heap.size, 0, 0, 0⟩, rfl, fun id m' _ hid => ⟨⟨rfl, none, heap_push_new _ _, .inl ⟨rfl, rfl⟩⟩, .ptr hid⟩⟩
    · cases h
  · rename_i kt et mm hu hx
    have hxv := opnd_vr hF hx
    generalize a.eval x = x' at *
    split at h
    rotate_left
    · cases h
    rename_i es clock hg
    split at h
    · rename_i id A1 hn
      simp only [Option.some.injEq, Prod.mk.injEq] at h
      obtain ⟨rfl, rfl⟩ := h
      cases hxv
      rename_i lm hmm
      obtain ⟨_, es', ho, _⟩ := hH.obj mm _ lm hg hmm
      refine Wrote.of_new (vf := fun id => .pointer (some ⟨id, 0, none⟩)) (v' := .pointer (some ⟨w.heap.size, 0, none⟩)) (w' := { w with heap := w.heap.push (.mapIter (some lm.blk) clock #[] clock) }) hH hn (run_valued ?_) ?_
      · simp only [Instr.range, Sem.run_bind, run_underlying hu, Result.andThen_ok, Sem.run_pure, run_newObj, run_getObj ho (by simp)]
      · exact ⟨rfl, rfl, rfl, ⟨_, rfl⟩, ⟨w.heap.size, 0, 0, 0⟩, rfl, fun id m' hle hid => ⟨⟨rfl, some lm.blk, heap_push_new _ _, .inr ⟨mm, lm, rfl, hle _ _ hmm, rfl⟩⟩, .ptr hid⟩⟩
    · cases h
  · cases h
end
end Ev
end Go
namespace Go
namespace Ev
section
variable {P : Program} {m : Mp} {A : AW} {w w' : World} {fr : AFr} {a : Act}

theorem ers_filter {f : Ent → Bool} {g : MapEntry → Bool} : ∀ {es : List Ent} {es' : List MapEntry} (_ : ERs m es es') (_ : ∀ e e', ER m e (toEnt e') → g e' = f e), ERs m (es.filter f) (es'.filter g)
  | _, _, .nil, _ => .nil
  | _, _, .cons (e := e0) (e' := e0') he hl, hfg => by
    simp only [List.filter_cons, hfg e0 e0' he]
    split
    · exact .cons he (ers_filter hl hfg)
    · exact ers_filter hl hfg
theorem ers_all {f : Ent → Bool} {g : MapEntry → Bool} : ∀ {es : List Ent} {es' : List MapEntry} (_ : ERs m es es') (_ : ∀ e e', ER m e (toEnt e') → g e' = f e), es'.all g = es.all f
  | _, _, .nil, _ => rfl
  | _, _, .cons (e := e0) (e' := e0') he hl, hfg => by
    simp only [List.all_cons, hfg e0 e0' he, ers_all hl hfg]

/-- An object that is no row of cells is turned. -/
def putObj (w : World) (r : Nat) (o : Obj) : World := { w with heap := w.heap.setIfInBounds r o }
theorem run_setObj' {r : Nat} {o o1 : Obj} (h : w.heap[r]? = some o) (hn : ∀ c e f, o ≠ .cells c e f) : (setObj r o1).run P w = .ok () (putObj w r o1) := by
  simp only [setObj, Sem.run, h]
  rfl
theorem putObj_at {r : Nat} {o o1 : Obj} (h : w.heap[r]? = some o) : (putObj w r o1).heap[r]? = some o1 := by
  have hlt := (Array.getElem?_eq_some_iff.1 h).1
  simp [putObj, hlt]
theorem butAt_putObj (w : World) (r : Nat) (o : Obj) : ButAt w (putObj w r o) r := ⟨rfl, rfl, rfl, by simp [putObj], fun j hj => by simp [putObj, Array.getElem?_setIfInBounds_ne (Ne.symm hj)]⟩

theorem ok_next {ty : TypeId} {x : Operand} {isS : Bool} {v : Value} {A' : AW} {ot : TypeId} (hH : HR P m A w) (hF : FR m fr a) (h : evW P fr A ty (.next x isS) = some (v, A')) :
    Wrote P m A w (do pure (Next.value (← Instr.next (a.eval x) isS ot))) v A' := by
  simp only [evW] at h
  split at h
  rotate_left
  · cases h
  rename_i r hx
  have hxv := opnd_vr hF hx
  generalize a.eval x = x' at *
  cases hxv
  rename_i l hm
  split at h
  · rename_i since seen st hg
    simp only [Option.some.injEq, Prod.mk.injEq] at h
    obtain ⟨rfl, rfl⟩ := h
    obtain ⟨h0, mp', ho, hmp⟩ := hH.obj r _ l hg hm
    rcases hmp with ⟨_, rfl⟩ | ⟨_, _, hc, _⟩
    · refine ⟨m, _, w, .inl (run_valued (v' := .tuple #[.bool false]) ?_), .tuple (.cons (.bool _) .nil), hH, .refl _ _ _⟩
      rw [h0]
      simp [Instr.next, run_getObj ho]
    · cases hc
  · -- a map
    rename_i mm since seen st hg
    split at h
    rotate_left
    · cases h
    rename_i es clock hgm
    rcases bif_some h with ⟨_, h⟩ | ⟨hsafe, h⟩
    · cases h
    obtain ⟨hold, h⟩ := bif_some' h
    obtain ⟨h0, mp', ho, hmp⟩ := hH.obj r _ l hg hm
    rcases hmp with ⟨hn, _⟩ | ⟨r2, lr, hr2, hmr, rfl⟩
    · cases hn
    simp only [Option.some.injEq] at hr2
    subst hr2
    obtain ⟨_, es', ho2, hers⟩ := hH.obj mm _ lr hgm hmr
    have hborn : ∀ (e : Ent) (e' : MapEntry), ER m e (toEnt e') → e'.born = e.born := fun e e' hee => hee.born
    have hseen : ∀ n, (⟨seen⟩ : Array Nat).contains n = seen.any (Nat.beq n) := by
      intro n
      rw [Bool.eq_iff_iff]
      simp
    have hleft := ers_filter (f := fun e => !seen.any (Nat.beq e.born)) (g := fun e => !(⟨seen⟩ : Array Nat).contains e.born) hers (fun e e' hee => by rw [hseen, hborn e e' hee])
    have hfl : (es'.filter fun e => !(⟨seen⟩ : Array Nat).contains e.born).toList = es'.toList.filter fun e => !(⟨seen⟩ : Array Nat).contains e.born := by simp
    have hsafe' : ((!(⟨seen⟩ : Array Nat).isEmpty) && (!es'.isEmpty) && es'.all (fun e => decide (e.born ≥ st))) = false := by
      have e1 : (⟨seen⟩ : Array Nat).isEmpty = seen.isEmpty := by cases seen <;> simp [Array.isEmpty]
      have e2 := emptyEq (ers_length hers)
      have e3 : es'.all (fun e => decide (e.born ≥ st)) = es.all (fun e => Nat.ble st e.born) := by
        rw [← Array.all_toList]
        refine ers_all hers (fun e e' hee => ?_)
        rw [hborn e e' hee, Bool.eq_iff_iff]
        simp
      rw [e1, e2, e3]
      exact hsafe
    split at h
    · -- over
      rename_i hl0
      simp only [Option.some.injEq, Prod.mk.injEq] at h
      obtain ⟨rfl, rfl⟩ := h
      rw [hl0] at hleft
      have hl' : (es'.filter fun e => !(⟨seen⟩ : Array Nat).contains e.born) = #[] := by
        apply Array.ext'
        rw [hfl]
        cases hh : es'.toList.filter fun e => !(⟨seen⟩ : Array Nat).contains e.born with
        | nil => rfl
        | cons x y => rw [hh] at hleft; cases hleft
      refine ⟨m, _, w, .inl (run_valued (v' := .tuple #[.bool false]) ?_), .tuple (.cons (.bool _) .nil), hH, .refl _ _ _⟩
      rw [h0]
      simp only [Instr.next, Sem.run_bind, run_getObj ho (by simp), Result.andThen_ok, run_getObj ho2 (by simp), hsafe', Bool.false_eq_true, if_false, hl']
      simp [Question.forced]
    · rename_i e hl1
      simp only [Option.some.injEq, Prod.mk.injEq] at h
      obtain ⟨rfl, rfl⟩ := h
      rw [hl1] at hleft hold
      simp only [List.all_cons, List.all_nil, Bool.and_true] at hold
      have hold := blt_true hold
      obtain ⟨e', hl', hee⟩ : ∃ e', (es'.filter fun e => !(⟨seen⟩ : Array Nat).contains e.born) = #[e'] ∧ ER m e (toEnt e') := by
        cases hh : es'.toList.filter fun e => !(⟨seen⟩ : Array Nat).contains e.born with
        | nil => rw [hh] at hleft; cases hleft
        | cons x y =>
          rw [hh] at hleft
          cases hleft with
          | cons h1 h2 =>
            cases h2
            refine ⟨x, ?_, h1⟩
            apply Array.ext'
            rw [hfl, hh]
      have hb : e'.born = e.born := hee.born
      have hput := hr_set (w' := putObj w l.blk (.mapIter (some lr.blk) since ((⟨seen⟩ : Array Nat).push e'.born) clock)) hH hg hm (butAt_putObj _ _ _) (o1 := .mapIter (some mm) since (seen ++ [e.born]) clock)
        ⟨h0, some lr.blk, by rw [putObj_at ho, hb]; congr 2; apply Array.ext'; simp, .inr ⟨mm, lr, rfl, hmr, rfl⟩⟩
      refine ⟨m, _, _, .inl (run_valued (v' := .tuple #[.bool true, e'.key, e'.val]) (w' := putObj w l.blk (.mapIter (some lr.blk) since ((⟨seen⟩ : Array Nat).push e'.born) clock)) ?_), .tuple (.cons (.bool _) (.cons hee.key (.cons hee.val .nil))), hput.1, hput.2⟩
      rw [h0]
      have hlt : e'.born < since := by omega
      simp only [Instr.next, Sem.run_bind, run_getObj ho (by simp), Result.andThen_ok, run_getObj ho2 (by simp), hsafe', Bool.false_eq_true, if_false, hl']
      have hge : ¬ (since ≤ e'.born) := by omega
      simp [Question.forced, hlt, hge, run_setObj' ho]
    · cases h
  · -- a string
    rename_i s pos hg
    obtain ⟨h0, ho⟩ := hH.obj r _ l hg hm
    rcases bif_some h with ⟨hlt, h⟩ | ⟨hge, h⟩
    · have hlt := blt_true hlt
      simp only [Option.some.injEq, Prod.mk.injEq] at h
      obtain ⟨rfl, rfl⟩ := h
      have hput := hr_set (w' := putObj w l.blk (.stringIter s (pos + (Utf8.decode s pos).2))) hH hg hm (butAt_putObj _ _ _) (o1 := .strIter s (pos + (Utf8.decode s pos).2)) ⟨h0, putObj_at ho⟩
      refine ⟨m, _, _, .inl (run_valued (v' := .tuple #[.bool true, goInt pos, .int .i32 (Utf8.decode s pos).1]) (w' := putObj w l.blk (.stringIter s (pos + (Utf8.decode s pos).2))) ?_), .tuple (.cons (.bool _) (.cons (.int _ _) (.cons (.int _ _) .nil))), hput.1, hput.2⟩
      rw [h0]
      simp [Instr.next, run_getObj ho, hlt, run_setObj' ho]
    · have hge : ¬ pos < s.size := fun hc => by rw [show Nat.blt pos s.size = true by simpa using hc] at hge; cases hge
      simp only [Option.some.injEq, Prod.mk.injEq] at h
      obtain ⟨rfl, rfl⟩ := h
      refine ⟨m, _, w, .inl (run_valued (v' := .tuple #[.bool false]) ?_), .tuple (.cons (.bool _) .nil), hH, .refl _ _ _⟩
      rw [h0]
      simp [Instr.next, run_getObj ho, hge]
  · cases h
end
end Ev
end Go
namespace Go
namespace Ev
section
variable {P : Program} {m : Mp} {A : AW} {w w' : World} {fr : AFr} {a : Act}

theorem upd_ers {f : Ent → Ent} {g : MapEntry → MapEntry} : ∀ {es : List Ent} {es' : List MapEntry} (_ : ERs m es es') (i : Nat) (_ : ∀ e e', ER m e (toEnt e') → ER m (f e) (toEnt (g e'))), ERs m (upd i f es) (es'.modify i g)
  | _, _, .nil, i, _ => by cases i <;> exact .nil
  | _, _, .cons he hl, 0, hfg => .cons (hfg _ _ he) hl
  | _, _, .cons he hl, i + 1, hfg => by
    simp only [upd, List.modify_succ_cons]
    exact .cons he (upd_ers hl i hfg)
theorem ers_snoc : ∀ {es : List Ent} {es' : List MapEntry} (_ : ERs m es es') {e : Ent} {e' : MapEntry} (_ : ER m e (toEnt e')), ERs m (es ++ [e]) (es' ++ [e'])
  | _, _, .nil, _, _, h => .cons h .nil
  | _, _, .cons he hl, _, _, h => .cons he (ers_snoc hl h)
theorem ers_erase : ∀ {es : List Ent} {es' : List MapEntry} (_ : ERs m es es') (i : Nat), ERs m (es.eraseIdx i) (es'.eraseIdx i)
  | _, _, .nil, _ => by simp; exact .nil
  | _, _, .cons he hl, 0 => by simpa using hl
  | _, _, .cons he hl, i + 1 => by simp only [List.eraseIdx_cons_succ]; exact .cons he (ers_erase hl i)

theorem ok_ins {t : TypeId} {x y z : Operand} {v : Value} {A' : AW} (hH : HR P m A w) (hF : FR m fr a) (h : evW.evIns P fr A t x y z = some (v, A')) :
    ∃ w', (Instr.mapUpdate t (a.eval x) (a.eval y) (a.eval z)).run P w = .ok () w' ∧ v = undef ∧ HR P m A' w' ∧ Ext A m w A' m w' := by
  unfold evW.evIns at h
  split at h
  rotate_left
  · cases h
  rename_i kt et r k val hmt hx hk hv
  have hu := mapT_some hmt
  have hxv := opnd_vr hF hx
  have hkv := opnd_vr hF hk
  have hvv := opnd_vr hF hv
  generalize a.eval x = x' at *
  generalize a.eval y = k' at *
  generalize a.eval z = v' at *
  cases hxv
  rename_i l hm
  split at h
  rotate_left
  · cases h
  rename_i es clock hg
  obtain ⟨h0, es', ho, hers⟩ := hH.obj r _ l hg hm
  split at h
  · rename_i i hfe
    obtain ⟨hkk, fr', hc, hf, hr⟩ := findE_ok (w := w) hfe hkv hers
    rcases hr with ⟨hn, _⟩ | ⟨i', e1, e', h1, h2, h3, h4, rfl⟩
    · cases hn
    simp only [Option.some.injEq] at h1
    subst h1
    rw [h2] at h
    simp only at h
    obtain ⟨hs, h⟩ := bif_some' h
    simp only [Option.some.injEq, Prod.mk.injEq] at h
    obtain ⟨rfl, rfl⟩ := h
    have hput := hr_set (w' := putObj w l.blk (.map (es'.modify i fun e => { e with key := k', val := v' }) clock)) hH hg hm (butAt_putObj _ _ _) (o1 := .map (upd i (fun e => ⟨k, val, e.born⟩) es) clock)
      ⟨h0, _, putObj_at ho, by
        have := upd_ers (f := fun e => ⟨k, val, e.born⟩) (g := fun e => { e with key := k', val := v' }) hers i (fun e e' hee => ⟨hkv, hvv, hee.born⟩)
        simpa using this⟩
    refine ⟨_, ?_, rfl, hput.1, hput.2⟩
    have hsame : Instr.sameBits 10000 e'.key k' = true := by
      have : vPlain e1.key = true := by
        unfold findE at hfe
        obtain ⟨hp, _⟩ := bif_some' hfe
        obtain ⟨_, hp2⟩ := and_true hp
        rw [List.all_eq_true] at hp2
        exact hp2 e1 (List.mem_of_getElem? h2)
      rw [show e'.key = e1.key from h4.key.plain this, hkk]
      exact hs
    have hei : es'[i]? = some e' := by simpa using h3
    rw [hkk] at hsame ⊢
    simp [Instr.mapUpdate, run_underlying hu, run_getObj ho, hc, hf, hei, Instr.keyThatStays, hsame, run_setObj' ho]
  · rename_i hfe
    obtain ⟨hkk, fr', hc, hf, hr⟩ := findE_ok (w := w) hfe hkv hers
    rcases hr with ⟨_, rfl⟩ | ⟨i', e1, e', h1, _⟩
    · simp only [Option.some.injEq, Prod.mk.injEq] at h
      obtain ⟨rfl, rfl⟩ := h
      have hput := hr_set (w' := putObj w l.blk (.map (es'.push { key := k', val := v', born := clock }) (clock + 1))) hH hg hm (butAt_putObj _ _ _) (o1 := .map (es ++ [⟨k, val, clock⟩]) (Nat.succ clock))
        ⟨h0, _, putObj_at ho, by
          have := ers_snoc hers (e := ⟨k, val, clock⟩) (e' := { key := k', val := v', born := clock }) ⟨hkv, hvv, rfl⟩
          simpa using this⟩
      refine ⟨_, ?_, rfl, hput.1, hput.2⟩
      rw [hkk]
      simp [Instr.mapUpdate, run_underlying hu, run_getObj ho, hc, hf, run_setObj' ho]
    · cases h1
  · cases h

theorem arg0 {args : Array Operand} {x' : Value} {l' : List Value} (h : args.map a.eval = ⟨x' :: l'⟩) : (args.map a.eval)[0]? = some x' := by rw [h]; rfl
theorem arg1 {args : Array Operand} {x' y' : Value} {l' : List Value} (h : args.map a.eval = ⟨x' :: y' :: l'⟩) : (args.map a.eval)[1]? = some y' := by rw [h]; rfl
theorem type0 {ts : Array TypeId} {t : TypeId} {l : List TypeId} (h : ts.toList = t :: l) : ts[0]? = some t := by
  have : ts.toList[0]? = some t := by rw [h]; rfl
  simpa using this
theorem type1 {ts : Array TypeId} {t u : TypeId} {l : List TypeId} (h : ts.toList = t :: u :: l) : ts[1]? = some u := by
  have : ts.toList[1]? = some u := by rw [h]; rfl
  simpa using this

theorem vr_unit (m : Mp) : VR m (.tuple ⟨[]⟩) (.tuple #[]) := .tuple .nil

/-- A row of a slice's, or a string's bytes: read by the machine. -/
theorem rowOf_ok {size n : Nat} {x x' : Value} {new : List Value} (hO : Objs P m A w) (h : rowOf A size x = some (n, new)) (hx : VR m x x') :
    ∃ new' : List Value, VRs m new new' ∧ new.length = n * size ∧ (Builtin.lenOf x').run P w = .ok n w ∧ (∀ k, k ≤ n → ∀ wd : World, wd.heap = w.heap → (Builtin.firstCells size k x').run P wd = .ok ⟨new'.take (k * size)⟩ wd) := by
  unfold rowOf at h
  split at h
  · rename_i nn cc
    obtain ⟨hn, h⟩ := bif_some' h
    have hn := beq_true hn
    simp only [Option.some.injEq, Prod.mk.injEq] at h
    obtain ⟨rfl, rfl⟩ := h
    cases hx
    refine ⟨[], .nil, by simp, rfl, fun k hk wd _ => ?_⟩
    simp [Builtin.firstCells]
  · rename_i b o nn cc
    split at h
    rotate_left
    · cases h
    rename_i c e hg
    split at h
    rotate_left
    · cases h
    rename_i r hc
    simp only [Option.some.injEq, Prod.mk.injEq] at h
    obtain ⟨rfl, rfl⟩ := h
    obtain ⟨b', o', lc, c', a', hb', rfl, hm, hcc, hl, ha⟩ := hx.slice_inv
    simp only [Addr.mk.injEq] at hb'
    obtain ⟨rfl, rfl, _⟩ := hb'
    obtain ⟨r', h1, h2, h3⟩ := objs_row hO hg hm hc
    refine ⟨r', h1, (cut_some hc).2, rfl, fun k hk wd hwd => ?_⟩
    rcases ha with rfl | h0
    · have hlen : (r'.take (k * size)).length = k * size := by
        rw [List.length_take, h2]
        exact Nat.min_eq_left (Nat.mul_le_mul_right _ hk)
      have := run_loadCells_list (P := P) wd ⟨lc.blk, lc.off + o, none⟩ (r'.take (k * size)) (fun j v hj => by
        have hlt : j < k * size := by
          have := (List.getElem?_eq_some_iff.1 hj).1
          omega
        rw [List.getElem?_take_of_lt hlt] at hj
        have := h3 j v hj
        unfold World.cell? at this ⊢
        rw [hwd]
        exact this)
      rw [hlen] at this
      simpa [Builtin.firstCells] using this
    · have : k = 0 := by omega
      subst this
      simp [Builtin.firstCells, loadCells, loadCellsFrom]
  · rename_i s
    obtain ⟨h1, h⟩ := bif_some' h
    have h1 := beq_true h1
    simp only [Option.some.injEq, Prod.mk.injEq] at h
    obtain ⟨rfl, rfl⟩ := h
    subst h1
    cases hx
    have hvr : ∀ l : List UInt8, VRs m (l.map fun b => Value.int .u8 (b.toNat : Int)) (l.map fun b => Value.int .u8 (b.toNat : Int)) := fun l => by
      induction l with
      | nil => exact .nil
      | cons b l ih => exact .cons (.int _ _) ih
    refine ⟨_, hvr _, by simp, rfl, fun k hk wd _ => ?_⟩
    simp only [Builtin.firstCells, Sem.run_pure]
    congr 1
    apply Array.ext'
    simp [List.extract_eq_take_drop]
  · cases h

theorem ok_copy {t : TypeId} {ts : Array TypeId} {args : Array Operand} {d x : Value} {rest : List Value} {ty : TypeId} {v : Value} {A' : AW} (hH : HR P m A w) (hF : FR m fr a) (ht : ts[0]? = some t)
    (ha : opnds fr args.toList = some (d :: x :: rest)) (h : copyV P A t d x = some (v, A')) :
    Wrote P m A w (do pure (Next.value (← Builtin.copy_ ts ty (args.map a.eval)))) v A' := by
  obtain ⟨d', l', hax, hdv, hl⟩ := opnds_two ha hF
  cases hl with
  | cons hxv hl =>
    rename_i x' l''
    have e0 := arg0 hax
    have e1 := arg1 hax
    unfold copyV at h
    split at h
    · cases h
    rename_i e size bytes he
    obtain ⟨hu, i, hi, hs, _⟩ := elemInfo_some he
    split at h
    · cases h
    rename_i n new hrow
    obtain ⟨new', hn1, hn2, hn3, hn4⟩ := rowOf_ok hH.objs hrow hxv
    have hmin : ∀ k, natMin n k = Nat.min n k := fun k => by
      unfold natMin
      cases hb : Nat.ble n k with
      | true => have := ble_true hb; simp [Nat.min_eq_left this]
      | false =>
        have : ¬ n ≤ k := fun hc => by rw [show Nat.ble n k = true by simpa using hc] at hb; cases hb
        have : k ≤ n := by omega
        simp [Nat.min_eq_right this]
    split at h
    · rename_i len cc
      obtain ⟨hz, h⟩ := bif_some' h
      have hz := beq_true hz
      simp only [Option.some.injEq, Prod.mk.injEq] at h
      obtain ⟨rfl, rfl⟩ := h
      cases hdv
      have := hn4 0 (Nat.zero_le _) w rfl
      refine ⟨m, _, w, .inl (run_valued (v' := goInt 0) ?_), .int _ _, hH, .refl _ _ _⟩
      have hm0 : Nat.min n 0 = 0 := by simp
      simp only [Builtin.copy_, ht, e0, e1, Sem.run_bind, run_underlying hu, Result.andThen_ok, hn3, Sem.run_pure, run_sizeOf hi, hs, hm0, this]
      rfl
    · rename_i b o len cc
      split at h
      rotate_left
      · cases h
      rename_i c el hg
      dsimp only at h
      split at h
      rotate_left
      · cases h
      rename_i c' hlay
      simp only [Option.some.injEq, Prod.mk.injEq] at h
      obtain ⟨rfl, rfl⟩ := h
      unfold layS at hlay
      obtain ⟨hna, hlay⟩ := bif_some' hlay
      obtain ⟨b', o', lc, c2, a', hb', rfl, hm, hcc, hll, hab⟩ := hdv.slice_inv
      simp only [Addr.mk.injEq] at hb'
      obtain ⟨rfl, rfl, _⟩ := hb'
      rw [hmin] at hlay hna
      rw [hmin]
      have hk : Nat.min n len ≤ n := Nat.min_le_left _ _
      have hfc := hn4 _ hk w rfl
      obtain ⟨w', h1, h2, h3⟩ := hr_lay hH hg hm (hn1.take _) hna hlay
      refine ⟨m, goInt (Nat.min n len), w', .inl (run_valued ?_), .int _ _, h2, h3⟩
      rcases hab with rfl | h0
      · simp only [Builtin.copy_, ht, e0, e1, Sem.run_bind, run_underlying hu, Result.andThen_ok, hn3, Sem.run_pure, run_sizeOf hi, hs, hfc]
        simp only [h1, Result.andThen_ok]
      · have hz : Nat.min n len = 0 := by
          have : len = 0 := by omega
          subst this
          simp
        rw [hz] at h1 hfc ⊢
        have hww : w' = w := by
          simp only [Nat.zero_mul, List.take_zero] at h1
          simp only [storeCells, Sem.run_pure, Result.ok.injEq, true_and] at h1
          exact h1.symm
        subst hww
        simp only [Builtin.copy_, ht, e0, e1, Sem.run_bind, run_underlying hu, Result.andThen_ok, hn3, Sem.run_pure, run_sizeOf hi, hs, hz, hfc]
        simp only [Nat.zero_mul, List.take_zero, storeCells, Sem.run_pure, Result.andThen_ok]
    · cases h
end
end Ev
end Go
namespace Go
namespace Ev
section
variable {P : Program} {m : Mp} {A : AW} {w w' : World} {fr : AFr} {a : Act}

/-- What stands ahead in an append: how many come, and which cells. -/
structure NewR (P : Program) (w : World) (elem : TypeId) (size bytes : Nat) (zeros : Bool) (x' : Value) (n : Nat) (new' : List Value) : Prop where
  len : new'.length = n * size
  count : zeros = false → (Builtin.lenOf x').run P w = .ok n w
  cells : zeros = false → ∀ wd : World, wd.heap = w.heap → (Builtin.firstCells size n x').run P wd = .ok ⟨new'⟩ wd
  int : zeros = true → x' = .int .i64 (.ofNat n) ∧ n ≤ 65536 ∧ ∃ z, zeroOf P elem = some z ∧ Builtin.zeroCells z.cells n = ⟨new'⟩

theorem zeroSz_some {e : TypeId} {size : Nat} (h : zeroSz P e size = true) : ∃ z, zeroOf P e = some z ∧ z.cells.size = size := by
  unfold zeroSz at h
  split at h
  · rename_i z hz
    exact ⟨z, hz, beq_true h⟩
  · cases h

theorem newOf_ok {elem : TypeId} {size bytes n : Nat} {zeros : Bool} {x x' : Value} {new : List Value} (hO : Objs P m A w) (hz : zeroSz P elem size = true) (h : newOf P A elem size zeros x = some (n, new)) (hx : VR m x x') :
    ∃ new' : List Value, VRs m new new' ∧ new.length = n * size ∧ NewR P w elem size bytes zeros x' n new' := by
  unfold newOf at h
  cases zeros with
  | false =>
    simp only [cond_false] at h
    obtain ⟨new', h1, h2, h3, h4⟩ := rowOf_ok hO h hx
    have hl : new'.length = n * size := by rw [h1.length, h2]
    refine ⟨new', h1, h2, hl, fun _ => h3, fun _ wd hwd => ?_, (fun hc => by cases hc)⟩
    have := h4 n (Nat.le_refl _) wd hwd
    rwa [List.take_of_length_le (by omega)] at this
  | true =>
    simp only [cond_true] at h
    split at h
    rotate_left
    · cases h
    rename_i k
    obtain ⟨hk, h⟩ := bif_some' h
    have hk := ble_true hk
    split at h
    rotate_left
    · cases h
    rename_i r hr
    simp only [Option.some.injEq, Prod.mk.injEq] at h
    obtain ⟨rfl, rfl⟩ := h
    obtain ⟨z, hz0, hzr, hpl, hpos⟩ := zeroRow_some hr
    obtain ⟨z', hz', hzs⟩ := zeroSz_some hz
    rw [hz0] at hz'
    simp only [Option.some.injEq] at hz'
    subst hz'
    cases hx
    have hlen : r.length = k * size := by rw [hzr]; simp
    refine ⟨r, VRs.refl_plain m r hpl, hlen, hlen, (fun hc => by cases hc), (fun hc => by cases hc), fun _ => ⟨rfl, hk, z, hz0, ?_⟩⟩
    unfold Builtin.zeroCells
    apply Array.ext'
    rw [hzr, hzs]

def isIntD : TypeDesc → Bool
  | .int _ => true
  | _ => false

theorem append_in {ts : Array TypeId} {ty t tx elem : TypeId} {i : TypeInfo} {size bytes n : Nat} {zeros : Bool} {args : Array Value} {base : Option Addr} {sLen sCap : Nat} {x' : Value} {new' : List Value} {d : TypeDesc}
    (h0 : ts[0]? = some t) (h1 : ts[1]? = some tx) (a0 : args[0]? = some (.slice base sLen sCap)) (a1 : args[1]? = some x') (hu : P.underlying t = some (.slice elem)) (hi : P.info? elem = some i)
    (hs : i.size = size) (hb : i.bytes = bytes) (hbb : bytes ≤ 65536) (hd : P.underlying tx = some d) (hdz : isIntD d = zeros) (hN : NewR P w elem size bytes zeros x' n new') (hfit : sLen + n ≤ sCap)
    (hst : ∀ ad, base = some ad → (storeCells (ad.add (sLen * size)) new').run P w = .ok () w') (hnil : base = none → w' = w) :
    (Builtin.append_ ts ty args).run P w = .ok (.slice base (sLen + n) sCap) w' := by
  have hsz : (sizeOf elem).run P w = .ok size w := by rw [run_sizeOf hi, hs]
  cases d
  case int k =>
    obtain rfl : zeros = true := hdz.symm
    obtain ⟨rfl, hn, z, hz, hzz⟩ := hN.int rfl
    have wn : IntKind.i64.wrap (Int.ofNat n) = Int.ofNat n := wrap_i64_small n (by omega)
    have e1 : ¬ (Int.ofNat n < 0) := by simp
    have e2 : ¬ (Int.ofNat n * (i.bytes : Int) > 2 ^ 48) := by
      have h1 : n * i.bytes ≤ 65536 * 65536 := Nat.mul_le_mul hn (by rw [hb]; exact hbb)
      have h2 : Int.ofNat n * (i.bytes : Int) = ((n * i.bytes : Nat) : Int) := by simp
      rw [h2]
      have : (2 : Int) ^ 48 = 281474976710656 := by decide
      omega
    have e3 : (Int.ofNat n).toNat = n := rfl
    have hz' := run_zeroValue (w := w) hz
    unfold Builtin.append_
    simp only [h0, a0, a1]
    simp only [Sem.run_bind, run_underlying hu, Result.andThen_ok, hsz]
    simp only [h1, Sem.run_bind, run_underlying hd, Result.andThen_ok, Sem.run_pure, if_true, asInt, asIntOf, wn, if_neg e1, typeInfo, run_program, hi, if_neg e2, e3, if_pos hfit, Bool.not_true, Bool.false_eq_true, if_false]
    by_cases h0n : n * size = 0
    · have : new' = [] := List.eq_nil_of_length_eq_zero (by rw [hN.len, h0n])
      subst this
      simp only [if_pos h0n]
      cases base with
      | none => simp [hnil rfl]
      | some ad => simp [hst ad rfl]
    · simp only [if_neg h0n, Sem.run_bind, hz', Result.andThen_ok, hzz]
      cases base with
      | none => simp [hnil rfl]
      | some ad => simp [hst ad rfl]
  all_goals
    obtain rfl : zeros = false := hdz.symm
    have hc := hN.count rfl
    have hf := hN.cells rfl w rfl
    unfold Builtin.append_
    simp only [h0, a0, a1]
    simp only [Sem.run_bind, run_underlying hu, Result.andThen_ok, hsz]
    simp only [h1, Sem.run_bind, run_underlying hd, Result.andThen_ok, Sem.run_pure, Bool.false_eq_true, if_false, hc, if_pos hfit, Bool.not_false, if_true, hf]
    cases base with
    | none => simp [hnil rfl]
    | some ad => simp [hst ad rfl]

theorem append_out {ts : Array TypeId} {ty t tx elem : TypeId} {i : TypeInfo} {size bytes n : Nat} {zeros : Bool} {args : Array Value} {base : Option Addr} {sLen sCap : Nat} {x' z : Value} {new' old' : List Value} {d : TypeDesc}
    (h0 : ts[0]? = some t) (h1 : ts[1]? = some tx) (a0 : args[0]? = some (.slice base sLen sCap)) (a1 : args[1]? = some x') (hu : P.underlying t = some (.slice elem)) (hi : P.info? elem = some i)
    (hs : i.size = size) (hb : i.bytes = bytes) (hbb : bytes ≤ 65536) (hd : P.underlying tx = some d) (hdz : isIntD d = zeros) (hN : NewR P w elem size bytes zeros x' n new')
    (hz : zeroOf P elem = some z) (hfit : sCap < sLen + n) (hmax : sLen + n ≤ 65536)
    (hold : ∀ wd : World, wd.heap = w.heap → (Builtin.firstCells size sLen (.slice base sLen sCap)).run P wd = .ok ⟨old'⟩ wd) :
    (Builtin.append_ ts ty args).run P w = .ok (.slice (some ⟨w.heap.size, 0, none⟩) (sLen + n) (grownCap w (sLen + n) sCap elem))
      (w.drew.alloc (.cells (⟨old'⟩ ++ ⟨new'⟩ ++ Builtin.zeroCells z.cells (grownCap w (sLen + n) sCap elem - (sLen + n))) elem)) := by
  have hsz : (sizeOf elem).run P w = .ok size w := by rw [run_sizeOf hi, hs]
  have hno : ¬ (sLen + n ≤ sCap) := by omega
  have hmx : IntKind.i64.max = 9223372036854775807 := by decide
  have hfit2 : ¬ (Builtin.nextslicecap (sLen + n) sCap * i.bytes > 2 ^ 48) := by
    have hle := nextslicecap_le hfit
    have h2 : Builtin.nextslicecap (sLen + n) sCap * i.bytes ≤ (2 * 65536) * 65536 := Nat.mul_le_mul (by omega) (by rw [hb]; exact hbb)
    omega
  have hz' := fun wd : World => run_zeroValue (w := wd) hz
  have hbig : ∀ c : Prop, ¬ (((sLen + n : Nat) : Int) > IntKind.i64.max ∧ c) := fun c hc => by
    rw [hmx] at hc
    have := hc.1
    omega
  have hold' := hold { w with drawn := w.drawn + 1 } rfl
  cases d
  case int k =>
    obtain rfl : zeros = true := hdz.symm
    obtain ⟨rfl, hn, z0, hz0, hzz⟩ := hN.int rfl
    rw [hz] at hz0
    simp only [Option.some.injEq] at hz0
    subst hz0
    have wn : IntKind.i64.wrap (Int.ofNat n) = Int.ofNat n := wrap_i64_small n (by omega)
    have e1 : ¬ (Int.ofNat n < 0) := by simp
    have e2 : ¬ (Int.ofNat n * (i.bytes : Int) > 2 ^ 48) := by
      have h1 : n * i.bytes ≤ 65536 * 65536 := Nat.mul_le_mul hn (by rw [hb]; exact hbb)
      have h2 : Int.ofNat n * (i.bytes : Int) = ((n * i.bytes : Nat) : Int) := by simp
      rw [h2]
      have : (2 : Int) ^ 48 = 281474976710656 := by decide
      omega
    have e3 : (Int.ofNat n).toNat = n := rfl
    unfold Builtin.append_
    simp only [h0, a0, a1]
    simp only [Sem.run_bind, run_underlying hu, Result.andThen_ok, hsz]
    simp only [h1, Sem.run_bind, run_underlying hd, Result.andThen_ok, Sem.run_pure, if_true, asInt, asIntOf, wn, if_neg e1, typeInfo, run_program, hi, if_neg e2, e3, if_neg hno, if_neg (hbig _), if_neg hfit2, Bool.not_true, Bool.false_eq_true, if_false, run_choose, Question.forced, run_askRoom, hold']
    by_cases h0n : n * size = 0
    · have : new' = [] := List.eq_nil_of_length_eq_zero (by rw [hN.len, h0n])
      subst this
      simp only [if_pos h0n, Sem.run_pure, Result.andThen_ok, Sem.run_bind, hz', newRow, run_newObj]
      rfl
    · simp only [if_neg h0n, Sem.run_pure, Result.andThen_ok, Sem.run_bind, hz', newRow, run_newObj, hzz]
      rfl
  all_goals
    obtain rfl : zeros = false := hdz.symm
    have hc := hN.count rfl
    have hf := hN.cells rfl { w with drawn := w.drawn + 1 } rfl
    unfold Builtin.append_
    simp only [h0, a0, a1]
    simp only [Sem.run_bind, run_underlying hu, Result.andThen_ok, hsz]
    simp only [h1, Sem.run_bind, run_underlying hd, Result.andThen_ok, Sem.run_pure, Bool.false_eq_true, if_false, hc, if_neg hno, typeInfo, run_program, hi, if_neg (hbig _), if_neg hfit2, run_choose, Question.forced, run_askRoom, hold', Bool.not_false, if_true, hf, hz', newRow, run_newObj]
    rfl
end
end Ev
end Go
namespace Go
namespace Ev
section
variable {P : Program} {m : Mp} {A : AW} {w w' : World} {fr : AFr} {a : Act}

theorem zeroCells_size (z : Array Value) (n : Nat) : (Builtin.zeroCells z n).size = n * z.size := by simp [Builtin.zeroCells]

/-- What a grown slice lays. -/
theorem lays_grown {elem : TypeId} {i : TypeInfo} {size need sCap : Nat} {all : List Value} {rest : Array Value} {all' : List Value} (hi : P.info? elem = some i) (hs : i.size = size) (hall : VRs m all all')
    (hlen : all'.length = need * size) (hrest : rest.size = (grownCap w need sCap elem - need) * size) :
    Lays P m w (w.drew.alloc (.cells (⟨all'⟩ ++ rest) elem)) (.cells all elem) (fun id => .slice (some ⟨id, 0, none⟩) need elastic) (.slice (some ⟨w.heap.size, 0, none⟩) need (grownCap w need sCap elem)) := by
  have hge := grownCap_le w need sCap elem
  have hsize : (⟨all'⟩ ++ rest : Array Value).size = grownCap w need sCap elem * size := by
    have : (⟨all'⟩ : Array Value).size = need * size := hlen
    rw [Array.size_append, this, hrest, ← Nat.add_mul]
    congr 1
    omega
  refine lays_cells (C := ⟨all'⟩ ++ rest) (fz := (0, 0)) rfl rfl rfl rfl ?_ (.inl rfl) ?_ (fun id m' _ hid => ?_)
  · rw [hsize, ← hall.length, hlen]
    exact Nat.mul_le_mul_right _ hge
  · intro j v hj
    obtain ⟨v', h1, h2⟩ := hall.get j hj
    refine ⟨v', ?_, h2⟩
    have hlt := (List.getElem?_eq_some_iff.1 h1).1
    rw [Array.getElem?_append_left (by simpa using hlt)]
    simpa using h1
  · refine .slice hid (.inr ⟨by decide +kernel, ?_⟩) hge (.inl (by simp))
    simp only [hsize, cellsOf_info hi, hs]
    omega

theorem ok_append {t tx : TypeId} {ts : Array TypeId} {args : Array Operand} {s x : Value} {rest : List Value} {ty : TypeId} {zeros : Bool} {d : TypeDesc} {v : Value} {A' : AW} (hH : HR P m A w) (hF : FR m fr a)
    (ht : ts[0]? = some t) (ht1 : ts[1]? = some tx) (hd : P.underlying tx = some d) (hdz : isIntD d = zeros)
    (ha : opnds fr args.toList = some (s :: x :: rest)) (h : appendV P A t zeros s x = some (v, A')) :
    Wrote P m A w (do pure (Next.value (← Builtin.append_ ts ty (args.map a.eval)))) v A' := by
  obtain ⟨s', l', hax, hsv, hl⟩ := opnds_two ha hF
  cases hl with
  | cons hxv hl =>
    rename_i x' l''
    have e0 := arg0 hax
    have e1 := arg1 hax
    clear hax
    unfold appendV at h
    split at h
    · cases h
    rename_i elem size bytes he
    obtain ⟨hu, i, hi, hs, hb⟩ := elemInfo_some he
    replace h := bif_some' h
    obtain ⟨hq, h⟩ := h
    obtain ⟨hq, q4⟩ := and_true hq
    obtain ⟨hq, q3⟩ := and_true hq
    obtain ⟨q1, q2⟩ := and_true hq
    have q1 := blt_true q1
    have q3 := ble_true q3
    obtain ⟨z, hz, hzs⟩ := zeroSz_some q4
    split at h
    · cases h
    rename_i n new hnew
    obtain ⟨new', hn1, hn2, hN⟩ := newOf_ok (bytes := bytes) hH.objs q4 hnew hxv
    have hcell : P.cellsOf elem = size := by rw [cellsOf_info hi, hs]
    replace h := bif_some h
    rcases h with ⟨hn0, h⟩ | ⟨hn0, h⟩
    · -- nothing comes
      have hn0 := beq_true hn0
      subst hn0
      have hnil : new' = [] := List.eq_nil_of_length_eq_zero (by rw [hN.len]; omega)
      split at h
      · rename_i base sLen sCap
        simp only [Option.some.injEq, Prod.mk.injEq] at h
        obtain ⟨rfl, rfl⟩ := h
        refine ⟨m, s', w, .inl (run_valued ?_), hsv, hH, .refl _ _ _⟩
        have key : ∀ (base' : Option Addr) (c' : Nat), sLen ≤ c' → s' = .slice base' sLen c' → (Builtin.append_ ts ty (args.map a.eval)).run P w = .ok (.slice base' sLen c') w := by
          intro base' c' hle hs'
          subst hs'
          exact append_in (w' := w) ht ht1 e0 e1 hu hi hs hb q3 hd hdz hN (by omega) (fun ad _ => by rw [hnil]; rfl) (fun _ => rfl)
        cases hsv with
        | sliceNil => exact key none 0 (Nat.le_refl _) rfl
        | slice hm hc hle hab => exact key _ _ hle rfl
      · cases h
    have hn0 : 0 < n := by
      rcases Nat.eq_zero_or_pos n with hc | hc
      · rw [hc] at hn0; cases hn0
      · exact hc
    split at h
    · -- nil
      rename_i len cap
      replace h := bif_some' h
      obtain ⟨hmax, h⟩ := h
      have hmax := ble_true hmax
      split at h
      rotate_left
      · cases h
      rename_i id A1 hnw
      simp only [Option.some.injEq, Prod.mk.injEq] at h
      obtain ⟨rfl, rfl⟩ := h
      cases hsv
      have hr := append_out (ty := ty) (w := w) (old' := []) ht ht1 e0 e1 hu hi hs hb q3 hd hdz hN hz (by omega) (by omega) (fun wd _ => by simp [Builtin.firstCells])
      simp only [Nat.zero_add] at hr
      refine Wrote.of_new (vf := fun id => .slice (some ⟨id, 0, none⟩) n elastic) hH hnw (run_valued hr) ?_
      have := lays_grown (P := P) (w := w) (m := m) (sCap := 0) (rest := Builtin.zeroCells z.cells (grownCap w n 0 elem - n)) hi hs hn1 hN.len (by rw [zeroCells_size, hzs])
      simpa using this
    · -- a row
      rename_i b o len cap
      split at h
      rotate_left
      · cases h
      rename_i c e hg
      obtain ⟨b', o', lc, c', a', hb', rfl, hm, hcc, hll, hab⟩ := hsv.slice_inv
      simp only [Addr.mk.injEq] at hb'
      obtain ⟨rfl, rfl, _⟩ := hb'
      obtain ⟨hsz, hlim, C, e', fz, hC, hfit, hz0, hcells⟩ := hH.obj b _ lc hg hm
      have inplace : ∀ {c2 : List Value}, len + n ≤ c' → layS new (o + len * size) c = some c2 → ∀ v, v = .slice (some ⟨b, o, none⟩) (len + n) cap → Wrote P m A w (do pure (Next.value (← Builtin.append_ ts ty (args.map a.eval)))) v (A.set b (.cells c2 e)) := by
        intro c2 hfits hlay v hv
        subst hv
        unfold layS at hlay
        obtain ⟨hna, hlay⟩ := bif_some' hlay
        have ha' : a' = ⟨lc.blk, lc.off + o, none⟩ := hab.resolve_right (by omega)
        subst ha'
        obtain ⟨w', h1, h2, h3⟩ := hr_lay hH hg hm hn1 hna hlay
        refine ⟨m, .slice (some ⟨lc.blk, lc.off + o, none⟩) (len + n) c', w', .inl (run_valued ?_), .slice hm hcc (by omega) (.inl rfl), h2, h3⟩
        refine append_in (w' := w') ht ht1 e0 e1 hu hi hs hb q3 hd hdz hN hfits (fun ad had => ?_) (fun hc => by cases hc)
        simp only [Option.some.injEq] at had
        subst had
        rw [addr_add, Nat.add_assoc]
        exact h1
      have olds : ∀ {old : List Value}, cut (len * size) o c = some old → ∃ old' : List Value, VRs m old old' ∧ old'.length = len * size ∧
          (∀ wd : World, wd.heap = w.heap → (Builtin.firstCells size len (.slice (some a') len c')).run P wd = .ok ⟨old'⟩ wd) := by
        intro old hcut
        have hrow : rowOf A size (.slice (some ⟨b, o, none⟩) len cap) = some (len, old) := by simp [rowOf, hg, hcut]
        obtain ⟨old', o1, o2, _, o4⟩ := rowOf_ok hH.objs hrow hsv
        have hl : old'.length = len * size := by rw [o1.length, o2]
        refine ⟨old', o1, hl, fun wd hwd => ?_⟩
        have := o4 len (Nat.le_refl _) wd hwd
        rwa [List.take_of_length_le (by omega)] at this
      have grow : ∀ {old : List Value}, c' < len + n → len + n ≤ 65536 → cut (len * size) o c = some old →
          ∃ (all' : List Value) (rest : Array Value), VRs m (old ++ new) all' ∧ all'.length = (len + n) * size ∧ rest.size = (grownCap w (len + n) c' elem - (len + n)) * size ∧
            (Builtin.append_ ts ty (args.map a.eval)).run P w = .ok (.slice (some ⟨w.heap.size, 0, none⟩) (len + n) (grownCap w (len + n) c' elem)) (w.drew.alloc (.cells (⟨all'⟩ ++ rest) elem)) := by
        intro old hlt hmax hcut
        obtain ⟨old', o1, o2, o3⟩ := olds hcut
        have hr := append_out (ty := ty) (w := w) ht ht1 e0 e1 hu hi hs hb q3 hd hdz hN hz hlt hmax o3
        have hcat : (⟨old'⟩ ++ ⟨new'⟩ : Array Value) = ⟨old' ++ new'⟩ := by apply Array.ext'; simp
        rw [hcat] at hr
        exact ⟨old' ++ new', Builtin.zeroCells z.cells (grownCap w (len + n) c' elem - (len + n)), o1.append hn1, by rw [List.length_append, o2, hN.len, Nat.add_mul], by rw [zeroCells_size, hzs], hr⟩
      replace h := bif_some h
      rcases h with ⟨hel, h⟩ | ⟨hel, h⟩
      · -- elastic
        rcases hcc with ⟨hne, _⟩ | ⟨_, hceq⟩
        · rw [hne] at hel; cases hel
        replace h := bif_some' h
        obtain ⟨hce, h⟩ := h
        have hce := beq_true hce
        have hszz : lc.sz = size := by rw [hsz, hce]
        rw [hszz] at hceq
        replace h := bif_some h
        rcases h with ⟨hin, h⟩ | ⟨hin, h⟩
        · have hin := ble_true hin
          split at h
          rotate_left
          · cases h
          rename_i c2 hlay
          simp only [Option.some.injEq, Prod.mk.injEq] at h
          obtain ⟨rfl, rfl⟩ := h
          refine inplace ?_ hlay _ rfl
          have h1 : (len + n) * size ≤ c' * size := by omega
          exact Nat.le_of_mul_le_mul_right h1 q1
        · replace h := bif_some' h
          obtain ⟨hq, h⟩ := h
          obtain ⟨hmax, hna⟩ := and_true hq
          have hmax := ble_true hmax
          split at h
          rotate_left
          · cases h
          rename_i old hcut
          split at h
          rotate_left
          · cases h
          rename_i id A1 hnw
          simp only [Option.some.injEq, Prod.mk.injEq] at h
          obtain ⟨rfl, rfl⟩ := h
          by_cases hroom : len + n ≤ c'
          · -- the machine has room: in place
            have ha' : a' = ⟨lc.blk, lc.off + o, none⟩ := hab.resolve_right (by omega)
            subst ha'
            obtain ⟨hold1, hold2⟩ := cut_some hcut
            have hnl := hN.len
            have hmul : (len + n) * size ≤ c' * size := Nat.mul_le_mul_right _ hroom
            rw [Nat.add_mul] at hmul
            have hfit' : lc.off + (o + len * size) + new'.length ≤ C.size := by omega
            have hstore := run_storeRow (P := P) lc.blk (lc.off + (o + len * size)) e' fz new' 0 C w hC hz0 (by simpa using hfit') (vrs_one hn1 hna)
            simp only [Nat.add_zero] at hstore
            obtain ⟨m', h1, h2, h3, h4⟩ := hr_move (w' := w.setRow lc.blk (splice C (lc.off + (o + len * size)) new')) (l1 := ⟨lc.blk, lc.off + o, size, lc.lim - o⟩) hH hg hm hnw (butAt_setRow _ _ _) rfl
              (fun m' hle hid => by
                refine ⟨hcell.symm, ?_, _, e', fz, setRow_heap w lc.blk C _ e' fz hC, ?_, ?_, ?_⟩
                · simp only [List.length_append, hold2, hn2]
                  omega
                · rw [splice_size hfit']
                  simp only
                  omega
                · rw [splice_size hfit']; exact hz0
                · intro j v hj
                  simp only
                  rw [splice_get hfit']
                  by_cases j1 : j < len * size
                  · rw [if_pos (by omega)]
                    rw [List.getElem?_append_left (by omega), hold1, List.getElem?_take_of_lt j1, List.getElem?_drop] at hj
                    obtain ⟨v', g1, g2⟩ := hcells _ v hj
                    exact ⟨v', by rw [← g1]; congr 1; omega, g2.mono hle⟩
                  · rw [if_neg (by omega)]
                    rw [List.getElem?_append_right (by omega), hold2] at hj
                    obtain ⟨v', g1, g2⟩ := hn1.get _ hj
                    have hlt := (List.getElem?_eq_some_iff.1 g1).1
                    rw [if_pos (by omega)]
                    exact ⟨v', by rw [← g1]; congr 1; omega, g2.mono hle⟩)
            refine ⟨m', .slice (some ⟨lc.blk, lc.off + o, none⟩) (len + n) c', _, .inl (run_valued ?_), .slice h4 (.inr ⟨by decide +kernel, ?_⟩) hroom (.inl (by simp)), h1, h2⟩
            · refine append_in ht ht1 e0 e1 hu hi hs hb q3 hd hdz hN hroom (fun ad had => ?_) (fun hc => by cases hc)
              simp only [Option.some.injEq] at had
              subst had
              rw [addr_add, Nat.add_assoc]
              exact hstore
            · simp only
              omega
          · obtain ⟨all', rst, g1, g2, g3, g4⟩ := grow (by omega) hmax hcut
            have hb4 : b < top4 := Nat.lt_of_lt_of_le (hH.live b _ hg) hH.top
            obtain ⟨k1, k2⟩ := hr_kill hH hb4
            obtain ⟨m', n1, n2, n3⟩ := hr_new k1 hnw (lays_grown (P := P) (w := w) (m := m) (sCap := c') hi hs g1 g2 g3)
            exact ⟨m', _, _, .inl (run_valued g4), n3, n1, k2.trans n2⟩
      · rcases hcc with ⟨_, rfl⟩ | ⟨he2, _⟩
        · replace h := bif_some h
          rcases h with ⟨hin, h⟩ | ⟨hin, h⟩
          · have hin := ble_true hin
            split at h
            rotate_left
            · cases h
            rename_i c2 hlay
            simp only [Option.some.injEq, Prod.mk.injEq] at h
            obtain ⟨rfl, rfl⟩ := h
            exact inplace hin hlay _ rfl
          · replace h := bif_some' h
            obtain ⟨hmax, h⟩ := h
            have hmax := ble_true hmax
            have hout : c' < len + n := by
              rcases Nat.lt_or_ge c' (len + n) with hc | hc
              · exact hc
              · rw [show Nat.ble (len + n) c' = true by simpa using hc] at hin; cases hin
            split at h
            rotate_left
            · cases h
            rename_i old hcut
            split at h
            rotate_left
            · cases h
            rename_i id A1 hnw
            simp only [Option.some.injEq, Prod.mk.injEq] at h
            obtain ⟨rfl, rfl⟩ := h
            obtain ⟨all', rst, g1, g2, g3, g4⟩ := grow hout hmax hcut
            obtain ⟨m', n1, n2, n3⟩ := hr_new hH hnw (lays_grown (P := P) (w := w) (m := m) (sCap := c') hi hs g1 g2 g3)
            exact ⟨m', _, _, .inl (run_valued g4), n3, n1, n2⟩
        · rw [he2] at hel; cases hel
    · cases h
end
end Ev
end Go
namespace Go
namespace Ev
section
variable {P : Program} {m : Mp} {A : AW} {w w' : World} {fr : AFr} {a : Act}

theorem ok_delete {t ty : TypeId} {ts : Array TypeId} {args : Array Operand} {mv k : Value} {rest : List Value} {kt et : TypeId} {v : Value} {A' : AW} (hH : HR P m A w) (hF : FR m fr a)
    (ht : ts[0]? = some t) (ha : opnds fr args.toList = some (mv :: k :: rest)) (hmt : mapT P t = some (kt, et))
    (h : (mv = .map none ∧ (∃ r, findE P true kt k [] = some r) ∧ v = .tuple ⟨[]⟩ ∧ A' = A) ∨
      (∃ r es clock, mv = .map (some r) ∧ A.get r = some (.map es clock) ∧ ((∃ i, findE P es.isEmpty kt k es = some (some i) ∧ v = .tuple ⟨[]⟩ ∧ A' = A.set r (.map (es.eraseIdx i) clock)) ∨
        (findE P es.isEmpty kt k es = some none ∧ v = .tuple ⟨[]⟩ ∧ A' = A)))) :
    Wrote P m A w (do pure (Next.value (← Builtin.delete_ ts ty (args.map a.eval)))) v A' := by
  have hu := mapT_some hmt
  obtain ⟨m', l', hax, hmv, hl⟩ := opnds_two ha hF
  cases hl with
  | cons hkv hl =>
    rename_i k' l''
    have e0 := arg0 hax
    have e1 := arg1 hax
    clear hax
    rcases h with ⟨rfl, ⟨r, hfe⟩, rfl, rfl⟩ | ⟨r, es, clock, rfl, hg, h⟩
    · cases hmv
      obtain ⟨rfl, fr', hc, _⟩ := findE_ok (w := w) hfe hkv .nil
      refine ⟨m, _, w, .inl (run_valued (v' := .tuple #[]) ?_), vr_unit m, hH, .refl _ _ _⟩
      simp [Builtin.delete_, ht, e0, e1, run_underlying hu, hc]
    · cases hmv
      rename_i l hm
      obtain ⟨h0, es', ho, hers⟩ := hH.obj r _ l hg hm
      have hemp := emptyEq (ers_length hers)
      rcases h with ⟨i, hfe, rfl, rfl⟩ | ⟨hfe, rfl, rfl⟩
      · obtain ⟨rfl, fr', hc, hf, hr⟩ := findE_ok (w := w) hfe hkv hers
        rcases hr with ⟨hn, _⟩ | ⟨i', e1', e', h1, h2, h3, h4, rfl⟩
        · cases hn
        simp only [Option.some.injEq] at h1
        subst h1
        have hput := hr_set (w' := putObj w l.blk (.map (es'.eraseIdxIfInBounds i) clock)) hH hg hm (butAt_putObj _ _ _) (o1 := .map (es.eraseIdx i) clock)
          ⟨h0, _, putObj_at ho, by
            have := ers_erase hers i
            simpa using this⟩
        refine ⟨m, _, _, .inl (run_valued (v' := .tuple #[]) (w' := putObj w l.blk (.map (es'.eraseIdxIfInBounds i) clock)) ?_), vr_unit m, hput.1, hput.2⟩
        simp [Builtin.delete_, ht, e0, e1, run_underlying hu, run_getObj ho, hemp, hc, hf, run_setObj' ho]
      · obtain ⟨rfl, fr', hc, hf, hr⟩ := findE_ok (w := w) hfe hkv hers
        rcases hr with ⟨_, rfl⟩ | ⟨i', e1', e', h1, _⟩
        · have hput := hr_touch (w' := putObj w l.blk (.map es' clock)) hH hg hm (butAt_putObj _ _ _) ⟨h0, _, putObj_at ho, hers⟩
          refine ⟨m, _, _, .inl (run_valued (v' := .tuple #[]) (w' := putObj w l.blk (.map es' clock)) ?_), vr_unit m, hput.1, hput.2⟩
          simp [Builtin.delete_, ht, e0, e1, run_underlying hu, run_getObj ho, hemp, hc, hf, run_setObj' ho]
        · cases h1

theorem ok_clear {t ty e : TypeId} {size bytes : Nat} {ts : Array TypeId} {args : Array Operand} {x : Value} {rest : List Value} {v : Value} {A' : AW} (hH : HR P m A w) (hF : FR m fr a)
    (ht : ts[0]? = some t) (ha : opnds fr args.toList = some (x :: rest)) (he : elemInfo P t = some (e, size, bytes))
    (h : (∃ l c, x = .slice none l c ∧ v = .tuple ⟨[]⟩ ∧ A' = A) ∨ (∃ b o n c, x = .slice (some ⟨b, o, none⟩) n c ∧ ((n = 0 ∧ v = .tuple ⟨[]⟩ ∧ A' = A) ∨ (0 < n ∧
      ∃ z cs el c', zeroRow P e (n * size) = some z ∧ zeroSz P e size = true ∧ A.get b = some (.cells cs el) ∧ layS z o cs = some c' ∧ v = .tuple ⟨[]⟩ ∧ A' = A.set b (.cells c' el))))) :
    Wrote P m A w (do pure (Next.value (← Builtin.clear_ ts ty (args.map a.eval)))) v A' := by
  obtain ⟨hu, i, hi, hs, hb⟩ := elemInfo_some he
  obtain ⟨x', l', hax, hxv, hl⟩ := opnds_two ha hF
  have e0 := arg0 hax
  clear hax
  rcases h with ⟨l, c, rfl, rfl, rfl⟩ | ⟨b, o, n, c, rfl, h⟩
  · cases hxv
    refine ⟨m, _, w, .inl (run_valued (v' := .tuple #[]) ?_), vr_unit m, hH, .refl _ _ _⟩
    simp [Builtin.clear_, ht, e0, run_underlying hu]
  · obtain ⟨b', o', lc, c', a', hb', rfl, hm, hcc, hll, hab⟩ := hxv.slice_inv
    simp only [Addr.mk.injEq] at hb'
    obtain ⟨rfl, rfl, _⟩ := hb'
    rcases h with ⟨rfl, rfl, rfl⟩ | ⟨hn, z, cs, el, c2, hz, hzs, hg, hlay, rfl, rfl⟩
    · refine ⟨m, _, w, .inl (run_valued (v' := .tuple #[]) ?_), vr_unit m, hH, .refl _ _ _⟩
      simp [Builtin.clear_, ht, e0, run_underlying hu]
    · have ha' : a' = ⟨lc.blk, lc.off + o, none⟩ := hab.resolve_right (by omega)
      subst ha'
      obtain ⟨z0, hz0, hzr, hpl, hpos⟩ := zeroRow_some hz
      obtain ⟨z1, hz1, hsz⟩ := zeroSz_some hzs
      rw [hz0] at hz1
      simp only [Option.some.injEq] at hz1
      subst hz1
      unfold layS at hlay
      obtain ⟨hna, hlay⟩ := bif_some' hlay
      obtain ⟨w', h1, h2, h3⟩ := hr_lay hH hg hm (VRs.refl_plain m z hpl) hna hlay
      refine ⟨m, _, w', .inl (run_valued (v' := .tuple #[]) ?_), vr_unit m, h2, h3⟩
      have hcells : (Builtin.zeroCells z0.cells n).toList = z := by
        unfold Builtin.zeroCells
        rw [hsz, hzr, hsz]
      have hn0 : n ≠ 0 := by omega
      unfold Builtin.clear_
      simp only [ht, e0, Sem.run_bind, run_underlying hu, Result.andThen_ok]
      simp only [run_zeroValue hz0, Result.andThen_ok, hcells, h1, Sem.run_pure]

theorem isIntD_of {d : TypeDesc} : isIntD d = (match d with | .int _ => true | _ => false) := by cases d <;> rfl

/-- **WHAT TURNS THE WORLD WITHOUT A CALL.** -/
theorem evW_ok {o : Oper} {v : Value} {A' : AW} (hH : HR P m A w) (hF : FR m fr a) (h : evW P fr A o.type o.op = some (v, A')) : Wrote P m A w (execOp a.eval o) v A' := by
  obtain ⟨dst, op, type, pos, after, guard⟩ := o
  cases op
  case store t x y =>
    obtain ⟨w', h1, rfl, h2, h3⟩ := ok_store hH hF h
    exact ⟨m, undef, w', .inr ⟨by simp [execOp, h1], rfl⟩, vr_undef m, h2, h3⟩
  case makeSlice t l c => exact ok_makeSlice hH hF h
  case convert s d x => exact ok_convertSame hH hF h
  case mapUpdate t x y z =>
    obtain ⟨w', h1, rfl, h2, h3⟩ := ok_ins hH hF h
    exact ⟨m, undef, w', .inr ⟨by simp [execOp, h1], rfl⟩, vr_undef m, h2, h3⟩
  case insert t x y z =>
    obtain ⟨w', h1, rfl, h2, h3⟩ := ok_ins hH hF h
    exact ⟨m, undef, w', .inr ⟨by simp [execOp, h1], rfl⟩, vr_undef m, h2, h3⟩
  case range t x => exact ok_range hH hF h
  case next x s => exact ok_next hH hF h
  case call c =>
    obtain ⟨callee, args, argTypes⟩ := c
    cases callee
    case builtin b =>
      have wrap : ∀ {s : Sem Value} {consts : Array Bool}, (∀ wd : World, (builtin b argTypes type consts (args.map a.eval)).run P wd = (do pure (Next.value (← s)) : Sem Next).run P wd) →
          Wrote P m A w (do pure (Next.value (← s))) v A' → Wrote P m A w (builtin b argTypes type consts (args.map a.eval)) v A' := by
        intro s consts hs hw
        obtain ⟨m', v', w', h1, h2⟩ := hw
        exact ⟨m', v', w', by rw [hs]; exact h1, h2⟩
      have hgoal : ∀ consts, Wrote P m A w (builtin b argTypes type consts (args.map a.eval)) v A' := by
        intro consts
        simp only [evW] at h
        split at h
        · -- append
          rename_i t t2 tl s x xl htl hargs
          split at h
          · rename_i k hd
            exact wrap (fun _ => rfl) (ok_append (zeros := true) hH hF (type0 htl) (type1 htl) hd rfl hargs h)
          · rename_i d hni hd
            exact wrap (fun _ => rfl) (ok_append (zeros := false) hH hF (type0 htl) (type1 htl) hd (by cases d <;> first | rfl | exact (hni _ rfl).elim) hargs h)
          · cases h
        · -- copy
          rename_i t tl d x xl htl hargs
          exact wrap (fun _ => rfl) (ok_copy hH hF (type0 htl) hargs h)
        · -- clear
          rename_i t tl x xl htl hargs
          split at h
          · rename_i e l c he
            simp only [Option.some.injEq, Prod.mk.injEq] at h
            obtain ⟨rfl, rfl⟩ := h
            exact wrap (fun _ => rfl) (ok_clear hH hF (type0 htl) hargs he (.inl ⟨_, _, rfl, rfl, rfl⟩))
          · rename_i e size bytes b o n c he
            replace h := bif_some h
            rcases h with ⟨hn, h⟩ | ⟨hn, h⟩
            · have hn := beq_true hn
              simp only [Option.some.injEq, Prod.mk.injEq] at h
              obtain ⟨rfl, rfl⟩ := h
              exact wrap (fun _ => rfl) (ok_clear hH hF (type0 htl) hargs he (.inr ⟨b, o, n, c, rfl, .inl ⟨hn, rfl, rfl⟩⟩))
            · have hn : 0 < n := by
                rcases Nat.eq_zero_or_pos n with hc | hc
                · rw [hc] at hn; cases hn
                · exact hc
              split at h
              · rename_i z cs el hz hg
                replace h := bif_some' h
                obtain ⟨hzs, h⟩ := h
                split at h
                · rename_i c2 hlay
                  simp only [Option.some.injEq, Prod.mk.injEq] at h
                  obtain ⟨rfl, rfl⟩ := h
                  exact wrap (fun _ => rfl) (ok_clear hH hF (type0 htl) hargs he (.inr ⟨b, o, n, c, rfl, .inr ⟨hn, z, cs, el, c2, hz, hzs, hg, hlay, rfl, rfl⟩⟩))
                · cases h
              · cases h
          · cases h
        · -- delete
          rename_i t tl mv k xl htl hargs
          split at h
          · rename_i kt et hmt
            split at h
            · rename_i r hfe
              simp only [Option.some.injEq, Prod.mk.injEq] at h
              obtain ⟨rfl, rfl⟩ := h
              exact wrap (fun _ => rfl) (ok_delete hH hF (type0 htl) hargs hmt (.inl ⟨rfl, ⟨_, hfe⟩, rfl, rfl⟩))
            · cases h
          · rename_i kt et r hmt
            split at h
            · rename_i es clock hg
              split at h
              · rename_i i hfe
                simp only [Option.some.injEq, Prod.mk.injEq] at h
                obtain ⟨rfl, rfl⟩ := h
                exact wrap (fun _ => rfl) (ok_delete hH hF (type0 htl) hargs hmt (.inr ⟨r, es, clock, rfl, hg, .inl ⟨i, hfe, rfl, rfl⟩⟩))
              · rename_i hfe
                simp only [Option.some.injEq, Prod.mk.injEq] at h
                obtain ⟨rfl, rfl⟩ := h
                exact wrap (fun _ => rfl) (ok_delete hH hF (type0 htl) hargs hmt (.inr ⟨r, es, clock, rfl, hg, .inr ⟨hfe, rfl, rfl⟩⟩))
              · cases h
            · cases h
          · cases h
        · cases h
      obtain ⟨m', v', w', h1, h2⟩ := hgoal (args.map fun | .const _ => true | _ => false)
      refine ⟨m', v', w', ?_, h2⟩
      simp only [execOp, resolve, Sem.run_bind, Sem.run_pure, Result.andThen_ok, invoke]
      exact h1
    all_goals simp [evW] at h
  all_goals simp [evW] at h
end
end Ev
end Go
