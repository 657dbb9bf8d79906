/-
  Runs of straight code over any numbers: a product of two words, the turns of a word; the table of what is known of calls.
-/
import Derived.Test.YtcddgghhikfimaaGreatEvD
import Derived.KernelRfl
import Derived.Test.YtcddgghhikfimaaGreatProg
namespace Go.Proofs.YtcddgghhikfimaaGreat
open Go Go.Ev
theorem mixed : Tryz.prog.follows .mixedOrders = true := by kernel_rfl
noncomputable def ext : FuncId → Option ExtK := fun f => Bool.rec (motive := fun _ => Option ExtK) (Bool.rec (motive := fun _ => Option ExtK) none (some .add64) (Nat.beq f 182)) (some .clone) (Nat.beq f 63)
set_option maxRecDepth 100000
theorem ext_clone : ExtIs Tryz.prog 63 .clone := by
  refine ⟨(Tryz.prog.funcs[63]?).getD default, by kernel_rfl, by kernel_rfl, by kernel_rfl, by kernel_rfl, by kernel_rfl⟩
theorem ext_add : ExtIs Tryz.prog 182 .add64 := by
  refine ⟨(Tryz.prog.funcs[182]?).getD default, by kernel_rfl, by kernel_rfl, by kernel_rfl, by kernel_rfl, by kernel_rfl⟩
theorem ext_at {ov : Ov} : ExtsOK Tryz.prog ⟨ext, ov⟩ := fun f k h => by
  change ext f = some k at h
  unfold ext at h
  cases h1 : Nat.beq f 63 with
  | true =>
    rw [h1] at h
    simp only [Option.some.injEq] at h
    subst h
    rw [beq_true h1]
    exact ext_clone
  | false =>
    rw [h1] at h
    cases h2 : Nat.beq f 182 with
    | true =>
      rw [h2] at h
      simp only [Option.some.injEq] at h
      subst h
      rw [beq_true h2]
      exact ext_add
    | false => rw [h2] at h; cases h
noncomputable def env0 : Env := ⟨fun _ => none, ovNone⟩
theorem known0 (n : Nat) : CallOK Tryz.prog (ev Tryz.prog env0 n) := ev_ok (E := env0) mixed (fun _ _ h => by cases h) ovNone_ok n
theorem mul_run (x y : Nat) : (ev Tryz.prog env0 60).call 181 [.int .u64 (.ofNat x), .int .u64 (.ofNat y)] ⟨.e, 0⟩ =
    some (.tuple ⟨[.int .u64 (mulHi (.ofNat x) (.ofNat y)), .int .u64 (bW (.ofNat x * .ofNat y))]⟩, ⟨.e, 0⟩) := by kernel_rfl
theorem mul_ok : OvP Tryz.prog (ovAt 181 mulG) := ovAt_ok (mulG_ok (ev := ev Tryz.prog env0 60) (f := 181) (known0 60) fun x y => ⟨_, mul_run x y⟩)
theorem ror_7_18_run (x : Nat) : obs1 ((ev Tryz.prog env0 300).call 169 [.int .u32 (.ofNat x), .slice (some ⟨0, 0, none⟩) [7, 18].length [7, 18].length] (one (i64s [7, 18]) 3)) = some (.int .u32 (rXor (rXor (0) (rRot (Int.ofNat x) (Int.ofNat (32 - 7)) (Int.ofNat 7))) (rRot (Int.ofNat x) (Int.ofNat (32 - 18)) (Int.ofNat 18))), i64s [7, 18], 3) := by kernel_rfl
theorem ror_7_18_eq (x : Nat) (hx : x < 4294967296) : (rXor (rXor (0) (rRot (Int.ofNat x) (Int.ofNat (32 - 7)) (Int.ofNat 7))) (rRot (Int.ofNat x) (Int.ofNat (32 - 18)) (Int.ofNat 18)) : Int) = Int.ofNat (turn2 x 7 18) := turn2_nat (by decide) (by decide) hx
theorem ror_7_18_at (x : Nat) (hx : x < 4294967296) : obs1 ((ev Tryz.prog env0 300).call 169 [.int .u32 (.ofNat x), .slice (some ⟨0, 0, none⟩) [7, 18].length [7, 18].length] (one (i64s [7, 18]) 3)) = some (.int .u32 (.ofNat (turn2 x 7 18)), i64s [7, 18], 3) := by
  rw [ror_7_18_run x, ror_7_18_eq x hx]
theorem ror_7_18_ok : OvP Tryz.prog (ovAt 169 (rorG 3 [7, 18] fun x => turn2 x 7 18)) := ovAt_ok (rorG_ok (ev := ev Tryz.prog env0 300) (f := 169) (e := 3) (l := [7, 18]) (g := fun x => turn2 x 7 18) (known0 300) ror_7_18_at)
theorem ror_17_19_run (x : Nat) : obs1 ((ev Tryz.prog env0 300).call 169 [.int .u32 (.ofNat x), .slice (some ⟨0, 0, none⟩) [17, 19].length [17, 19].length] (one (i64s [17, 19]) 3)) = some (.int .u32 (rXor (rXor (0) (rRot (Int.ofNat x) (Int.ofNat (32 - 17)) (Int.ofNat 17))) (rRot (Int.ofNat x) (Int.ofNat (32 - 19)) (Int.ofNat 19))), i64s [17, 19], 3) := by kernel_rfl
theorem ror_17_19_eq (x : Nat) (hx : x < 4294967296) : (rXor (rXor (0) (rRot (Int.ofNat x) (Int.ofNat (32 - 17)) (Int.ofNat 17))) (rRot (Int.ofNat x) (Int.ofNat (32 - 19)) (Int.ofNat 19)) : Int) = Int.ofNat (turn2 x 17 19) := turn2_nat (by decide) (by decide) hx
theorem ror_17_19_at (x : Nat) (hx : x < 4294967296) : obs1 ((ev Tryz.prog env0 300).call 169 [.int .u32 (.ofNat x), .slice (some ⟨0, 0, none⟩) [17, 19].length [17, 19].length] (one (i64s [17, 19]) 3)) = some (.int .u32 (.ofNat (turn2 x 17 19)), i64s [17, 19], 3) := by
  rw [ror_17_19_run x, ror_17_19_eq x hx]
theorem ror_17_19_ok : OvP Tryz.prog (ovAt 169 (rorG 3 [17, 19] fun x => turn2 x 17 19)) := ovAt_ok (rorG_ok (ev := ev Tryz.prog env0 300) (f := 169) (e := 3) (l := [17, 19]) (g := fun x => turn2 x 17 19) (known0 300) ror_17_19_at)
theorem ror_6_11_25_run (x : Nat) : obs1 ((ev Tryz.prog env0 300).call 169 [.int .u32 (.ofNat x), .slice (some ⟨0, 0, none⟩) [6, 11, 25].length [6, 11, 25].length] (one (i64s [6, 11, 25]) 3)) = some (.int .u32 (rXor (rXor (rXor (0) (rRot (Int.ofNat x) (Int.ofNat (32 - 6)) (Int.ofNat 6))) (rRot (Int.ofNat x) (Int.ofNat (32 - 11)) (Int.ofNat 11))) (rRot (Int.ofNat x) (Int.ofNat (32 - 25)) (Int.ofNat 25))), i64s [6, 11, 25], 3) := by kernel_rfl
theorem ror_6_11_25_eq (x : Nat) (hx : x < 4294967296) : (rXor (rXor (rXor (0) (rRot (Int.ofNat x) (Int.ofNat (32 - 6)) (Int.ofNat 6))) (rRot (Int.ofNat x) (Int.ofNat (32 - 11)) (Int.ofNat 11))) (rRot (Int.ofNat x) (Int.ofNat (32 - 25)) (Int.ofNat 25)) : Int) = Int.ofNat (turn3 x 6 11 25) := turn3_nat (by decide) (by decide) (by decide) hx
theorem ror_6_11_25_at (x : Nat) (hx : x < 4294967296) : obs1 ((ev Tryz.prog env0 300).call 169 [.int .u32 (.ofNat x), .slice (some ⟨0, 0, none⟩) [6, 11, 25].length [6, 11, 25].length] (one (i64s [6, 11, 25]) 3)) = some (.int .u32 (.ofNat (turn3 x 6 11 25)), i64s [6, 11, 25], 3) := by
  rw [ror_6_11_25_run x, ror_6_11_25_eq x hx]
theorem ror_6_11_25_ok : OvP Tryz.prog (ovAt 169 (rorG 3 [6, 11, 25] fun x => turn3 x 6 11 25)) := ovAt_ok (rorG_ok (ev := ev Tryz.prog env0 300) (f := 169) (e := 3) (l := [6, 11, 25]) (g := fun x => turn3 x 6 11 25) (known0 300) ror_6_11_25_at)
theorem ror_2_13_22_run (x : Nat) : obs1 ((ev Tryz.prog env0 300).call 169 [.int .u32 (.ofNat x), .slice (some ⟨0, 0, none⟩) [2, 13, 22].length [2, 13, 22].length] (one (i64s [2, 13, 22]) 3)) = some (.int .u32 (rXor (rXor (rXor (0) (rRot (Int.ofNat x) (Int.ofNat (32 - 2)) (Int.ofNat 2))) (rRot (Int.ofNat x) (Int.ofNat (32 - 13)) (Int.ofNat 13))) (rRot (Int.ofNat x) (Int.ofNat (32 - 22)) (Int.ofNat 22))), i64s [2, 13, 22], 3) := by kernel_rfl
theorem ror_2_13_22_eq (x : Nat) (hx : x < 4294967296) : (rXor (rXor (rXor (0) (rRot (Int.ofNat x) (Int.ofNat (32 - 2)) (Int.ofNat 2))) (rRot (Int.ofNat x) (Int.ofNat (32 - 13)) (Int.ofNat 13))) (rRot (Int.ofNat x) (Int.ofNat (32 - 22)) (Int.ofNat 22)) : Int) = Int.ofNat (turn3 x 2 13 22) := turn3_nat (by decide) (by decide) (by decide) hx
theorem ror_2_13_22_at (x : Nat) (hx : x < 4294967296) : obs1 ((ev Tryz.prog env0 300).call 169 [.int .u32 (.ofNat x), .slice (some ⟨0, 0, none⟩) [2, 13, 22].length [2, 13, 22].length] (one (i64s [2, 13, 22]) 3)) = some (.int .u32 (.ofNat (turn3 x 2 13 22)), i64s [2, 13, 22], 3) := by
  rw [ror_2_13_22_run x, ror_2_13_22_eq x hx]
theorem ror_2_13_22_ok : OvP Tryz.prog (ovAt 169 (rorG 3 [2, 13, 22] fun x => turn3 x 2 13 22)) := ovAt_ok (rorG_ok (ev := ev Tryz.prog env0 300) (f := 169) (e := 3) (l := [2, 13, 22]) (g := fun x => turn3 x 2 13 22) (known0 300) ror_2_13_22_at)
noncomputable def ovA : Ov := (ovOr (ovAt 181 mulG) (ovOr (ovAt 169 (rorG 3 [7, 18] fun x => turn2 x 7 18)) (ovOr (ovAt 169 (rorG 3 [17, 19] fun x => turn2 x 17 19)) (ovOr (ovAt 169 (rorG 3 [6, 11, 25] fun x => turn3 x 6 11 25)) (ovAt 169 (rorG 3 [2, 13, 22] fun x => turn3 x 2 13 22))))))
theorem ovA_ok : OvP Tryz.prog ovA := (ovOr_ok mul_ok (ovOr_ok ror_7_18_ok (ovOr_ok ror_17_19_ok (ovOr_ok ror_6_11_25_ok ror_2_13_22_ok))))
noncomputable def envA : Env := ⟨ext, ovA⟩
theorem knownA (n : Nat) : CallOK Tryz.prog (evT Tryz.prog envA n) := evT_ok (E := envA) mixed ext_at ovA_ok n
def kWords : List Nat := [1116352408, 1899447441, 3049323471, 3921009573, 961987163, 1508970993, 2453635748, 2870763221, 3624381080, 310598401, 607225278, 1426881987, 1925078388, 2162078206, 2614888103, 3248222580, 3835390401, 4022224774, 264347078, 604807628, 770255983, 1249150122, 1555081692, 1996064986, 2554220882, 2821834349, 2952996808, 3210313671, 3336571891, 3584528711, 113926993, 338241895, 666307205, 773529912, 1294757372, 1396182291, 1695183700, 1986661051, 2177026350, 2456956037, 2730485921, 2820302411, 3259730800, 3345764771, 3516065817, 3600352804, 4094571909, 275423344, 430227734, 506948616, 659060556, 883997877, 958139571, 1322822218, 1537002063, 1747873779, 1955562222, 2024104815, 2227730452, 2361852424, 2428436474, 2756734187, 3204031479, 3329325298]
def u32s (l : List Nat) : List Value := l.map fun x => .int .u32 (.ofNat x)
def u8s (l : List Nat) : List Value := l.map fun x => .int .u8 (.ofNat x)
end Go.Proofs.YtcddgghhikfimaaGreat
