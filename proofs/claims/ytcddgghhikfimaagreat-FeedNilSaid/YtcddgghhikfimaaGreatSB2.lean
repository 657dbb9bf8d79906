/-
  Words of the start, and constants, of the first primes: 18 of them, each run.
-/
import Derived.Test.YtcddgghhikfimaaGreatSA
namespace Go.Proofs.YtcddgghhikfimaaGreat
open Go Go.Ev
set_option maxRecDepth 1000000
def words2_0 : List PRow := [⟨136, [.int .u64 (.ofNat 157)], .int .u32 (.ofNat 1695183700)⟩, ⟨136, [.int .u64 (.ofNat 163)], .int .u32 (.ofNat 1986661051)⟩, ⟨136, [.int .u64 (.ofNat 167)], .int .u32 (.ofNat 2177026350)⟩, ⟨136, [.int .u64 (.ofNat 173)], .int .u32 (.ofNat 2456956037)⟩, ⟨136, [.int .u64 (.ofNat 179)], .int .u32 (.ofNat 2730485921)⟩, ⟨136, [.int .u64 (.ofNat 181)], .int .u32 (.ofNat 2820302411)⟩]
theorem words2_0_run : rowsIs (evT Tryz.prog envA 2000) words2_0 = true := by kernel_rfl
def words2_1 : List PRow := [⟨136, [.int .u64 (.ofNat 191)], .int .u32 (.ofNat 3259730800)⟩, ⟨136, [.int .u64 (.ofNat 193)], .int .u32 (.ofNat 3345764771)⟩, ⟨136, [.int .u64 (.ofNat 197)], .int .u32 (.ofNat 3516065817)⟩, ⟨136, [.int .u64 (.ofNat 199)], .int .u32 (.ofNat 3600352804)⟩, ⟨136, [.int .u64 (.ofNat 211)], .int .u32 (.ofNat 4094571909)⟩, ⟨136, [.int .u64 (.ofNat 223)], .int .u32 (.ofNat 275423344)⟩]
theorem words2_1_run : rowsIs (evT Tryz.prog envA 2000) words2_1 = true := by kernel_rfl
def words2_2 : List PRow := [⟨136, [.int .u64 (.ofNat 227)], .int .u32 (.ofNat 430227734)⟩, ⟨136, [.int .u64 (.ofNat 229)], .int .u32 (.ofNat 506948616)⟩, ⟨136, [.int .u64 (.ofNat 233)], .int .u32 (.ofNat 659060556)⟩, ⟨136, [.int .u64 (.ofNat 239)], .int .u32 (.ofNat 883997877)⟩, ⟨136, [.int .u64 (.ofNat 241)], .int .u32 (.ofNat 958139571)⟩, ⟨136, [.int .u64 (.ofNat 251)], .int .u32 (.ofNat 1322822218)⟩]
theorem words2_2_run : rowsIs (evT Tryz.prog envA 2000) words2_2 = true := by kernel_rfl
def words2 : List PRow := words2_0 ++ words2_1 ++ words2_2
theorem words2_known : Known Tryz.prog words2 := (((rows_known (knownA 2000) words2_0_run).append (rows_known (knownA 2000) words2_1_run)).append (rows_known (knownA 2000) words2_2_run))
end Go.Proofs.YtcddgghhikfimaaGreat
