/-
  Words of the start, and constants, of the first primes: 18 of them, each run.
-/
import Derived.Test.YtcddgghhikfimaaGreatSA
namespace Go.Proofs.YtcddgghhikfimaaGreat
open Go Go.Ev
set_option maxRecDepth 1000000
def words3_0 : List PRow := [⟨136, [.int .u64 (.ofNat 257)], .int .u32 (.ofNat 1537002063)⟩, ⟨136, [.int .u64 (.ofNat 263)], .int .u32 (.ofNat 1747873779)⟩, ⟨136, [.int .u64 (.ofNat 269)], .int .u32 (.ofNat 1955562222)⟩, ⟨136, [.int .u64 (.ofNat 271)], .int .u32 (.ofNat 2024104815)⟩, ⟨136, [.int .u64 (.ofNat 277)], .int .u32 (.ofNat 2227730452)⟩, ⟨136, [.int .u64 (.ofNat 281)], .int .u32 (.ofNat 2361852424)⟩]
theorem words3_0_run : rowsIs (evT Tryz.prog envA 2000) words3_0 = true := by kernel_rfl
def words3_1 : List PRow := [⟨136, [.int .u64 (.ofNat 283)], .int .u32 (.ofNat 2428436474)⟩, ⟨136, [.int .u64 (.ofNat 293)], .int .u32 (.ofNat 2756734187)⟩, ⟨136, [.int .u64 (.ofNat 307)], .int .u32 (.ofNat 3204031479)⟩, ⟨136, [.int .u64 (.ofNat 311)], .int .u32 (.ofNat 3329325298)⟩, ⟨137, [.int .u64 (.ofNat 2)], .int .u32 (.ofNat 1779033703)⟩, ⟨137, [.int .u64 (.ofNat 3)], .int .u32 (.ofNat 3144134277)⟩]
theorem words3_1_run : rowsIs (evT Tryz.prog envA 2000) words3_1 = true := by kernel_rfl
def words3_2 : List PRow := [⟨137, [.int .u64 (.ofNat 5)], .int .u32 (.ofNat 1013904242)⟩, ⟨137, [.int .u64 (.ofNat 7)], .int .u32 (.ofNat 2773480762)⟩, ⟨137, [.int .u64 (.ofNat 11)], .int .u32 (.ofNat 1359893119)⟩, ⟨137, [.int .u64 (.ofNat 13)], .int .u32 (.ofNat 2600822924)⟩, ⟨137, [.int .u64 (.ofNat 17)], .int .u32 (.ofNat 528734635)⟩, ⟨137, [.int .u64 (.ofNat 19)], .int .u32 (.ofNat 1541459225)⟩]
theorem words3_2_run : rowsIs (evT Tryz.prog envA 2000) words3_2 = true := by kernel_rfl
def words3 : List PRow := words3_0 ++ words3_1 ++ words3_2
theorem words3_known : Known Tryz.prog words3 := (((rows_known (knownA 2000) words3_0_run).append (rows_known (knownA 2000) words3_1_run)).append (rows_known (knownA 2000) words3_2_run))
end Go.Proofs.YtcddgghhikfimaaGreat
