/-
  Words of the start, and constants, of the first primes: 18 of them, each run.
-/
import Derived.Test.YtcddgghhikfimaaGreatSA
namespace Go.Proofs.YtcddgghhikfimaaGreat
open Go Go.Ev
set_option maxRecDepth 1000000
def words1_0 : List PRow := [⟨136, [.int .u64 (.ofNat 67)], .int .u32 (.ofNat 264347078)⟩, ⟨136, [.int .u64 (.ofNat 71)], .int .u32 (.ofNat 604807628)⟩, ⟨136, [.int .u64 (.ofNat 73)], .int .u32 (.ofNat 770255983)⟩, ⟨136, [.int .u64 (.ofNat 79)], .int .u32 (.ofNat 1249150122)⟩, ⟨136, [.int .u64 (.ofNat 83)], .int .u32 (.ofNat 1555081692)⟩, ⟨136, [.int .u64 (.ofNat 89)], .int .u32 (.ofNat 1996064986)⟩]
theorem words1_0_run : rowsIs (evT Tryz.prog envA 2000) words1_0 = true := by kernel_rfl
def words1_1 : List PRow := [⟨136, [.int .u64 (.ofNat 97)], .int .u32 (.ofNat 2554220882)⟩, ⟨136, [.int .u64 (.ofNat 101)], .int .u32 (.ofNat 2821834349)⟩, ⟨136, [.int .u64 (.ofNat 103)], .int .u32 (.ofNat 2952996808)⟩, ⟨136, [.int .u64 (.ofNat 107)], .int .u32 (.ofNat 3210313671)⟩, ⟨136, [.int .u64 (.ofNat 109)], .int .u32 (.ofNat 3336571891)⟩, ⟨136, [.int .u64 (.ofNat 113)], .int .u32 (.ofNat 3584528711)⟩]
theorem words1_1_run : rowsIs (evT Tryz.prog envA 2000) words1_1 = true := by kernel_rfl
def words1_2 : List PRow := [⟨136, [.int .u64 (.ofNat 127)], .int .u32 (.ofNat 113926993)⟩, ⟨136, [.int .u64 (.ofNat 131)], .int .u32 (.ofNat 338241895)⟩, ⟨136, [.int .u64 (.ofNat 137)], .int .u32 (.ofNat 666307205)⟩, ⟨136, [.int .u64 (.ofNat 139)], .int .u32 (.ofNat 773529912)⟩, ⟨136, [.int .u64 (.ofNat 149)], .int .u32 (.ofNat 1294757372)⟩, ⟨136, [.int .u64 (.ofNat 151)], .int .u32 (.ofNat 1396182291)⟩]
theorem words1_2_run : rowsIs (evT Tryz.prog envA 2000) words1_2 = true := by kernel_rfl
def words1 : List PRow := words1_0 ++ words1_1 ++ words1_2
theorem words1_known : Known Tryz.prog words1 := (((rows_known (knownA 2000) words1_0_run).append (rows_known (knownA 2000) words1_1_run)).append (rows_known (knownA 2000) words1_2_run))
end Go.Proofs.YtcddgghhikfimaaGreat
