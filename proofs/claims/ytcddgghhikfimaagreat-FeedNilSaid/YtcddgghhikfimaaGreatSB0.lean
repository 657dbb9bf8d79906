/-
  Words of the start, and constants, of the first primes: 18 of them, each run.
-/
import Derived.Test.YtcddgghhikfimaaGreatSA
namespace Go.Proofs.YtcddgghhikfimaaGreat
open Go Go.Ev
set_option maxRecDepth 1000000
def words0_0 : List PRow := [⟨136, [.int .u64 (.ofNat 2)], .int .u32 (.ofNat 1116352408)⟩, ⟨136, [.int .u64 (.ofNat 3)], .int .u32 (.ofNat 1899447441)⟩, ⟨136, [.int .u64 (.ofNat 5)], .int .u32 (.ofNat 3049323471)⟩, ⟨136, [.int .u64 (.ofNat 7)], .int .u32 (.ofNat 3921009573)⟩, ⟨136, [.int .u64 (.ofNat 11)], .int .u32 (.ofNat 961987163)⟩, ⟨136, [.int .u64 (.ofNat 13)], .int .u32 (.ofNat 1508970993)⟩]
theorem words0_0_run : rowsIs (evT Tryz.prog envA 2000) words0_0 = true := by kernel_rfl
def words0_1 : List PRow := [⟨136, [.int .u64 (.ofNat 17)], .int .u32 (.ofNat 2453635748)⟩, ⟨136, [.int .u64 (.ofNat 19)], .int .u32 (.ofNat 2870763221)⟩, ⟨136, [.int .u64 (.ofNat 23)], .int .u32 (.ofNat 3624381080)⟩, ⟨136, [.int .u64 (.ofNat 29)], .int .u32 (.ofNat 310598401)⟩, ⟨136, [.int .u64 (.ofNat 31)], .int .u32 (.ofNat 607225278)⟩, ⟨136, [.int .u64 (.ofNat 37)], .int .u32 (.ofNat 1426881987)⟩]
theorem words0_1_run : rowsIs (evT Tryz.prog envA 2000) words0_1 = true := by kernel_rfl
def words0_2 : List PRow := [⟨136, [.int .u64 (.ofNat 41)], .int .u32 (.ofNat 1925078388)⟩, ⟨136, [.int .u64 (.ofNat 43)], .int .u32 (.ofNat 2162078206)⟩, ⟨136, [.int .u64 (.ofNat 47)], .int .u32 (.ofNat 2614888103)⟩, ⟨136, [.int .u64 (.ofNat 53)], .int .u32 (.ofNat 3248222580)⟩, ⟨136, [.int .u64 (.ofNat 59)], .int .u32 (.ofNat 3835390401)⟩, ⟨136, [.int .u64 (.ofNat 61)], .int .u32 (.ofNat 4022224774)⟩]
theorem words0_2_run : rowsIs (evT Tryz.prog envA 2000) words0_2 = true := by kernel_rfl
def words0 : List PRow := words0_0 ++ words0_1 ++ words0_2
theorem words0_known : Known Tryz.prog words0 := (((rows_known (knownA 2000) words0_0_run).append (rows_known (knownA 2000) words0_1_run)).append (rows_known (knownA 2000) words0_2_run))
end Go.Proofs.YtcddgghhikfimaaGreat
