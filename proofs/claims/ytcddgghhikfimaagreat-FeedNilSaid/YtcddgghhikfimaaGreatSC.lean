/-
  The start of a sum, run.
-/
import Derived.Test.YtcddgghhikfimaaGreatSB0
import Derived.Test.YtcddgghhikfimaaGreatSB1
import Derived.Test.YtcddgghhikfimaaGreatSB2
import Derived.Test.YtcddgghhikfimaaGreatSB3
namespace Go.Proofs.YtcddgghhikfimaaGreat
open Go Go.Ev
set_option maxRecDepth 1000000
def words : List PRow := words0 ++ words1 ++ words2 ++ words3
theorem words_known : Known Tryz.prog words := (((words0_known.append words1_known).append words2_known).append words3_known)
noncomputable def envB : Env := ⟨ext, ovOr (ovRows words) ovA⟩
theorem knownB (n : Nat) : CallOK Tryz.prog (evT Tryz.prog envB n) := evT_ok (E := envB) mixed ext_at (ovOr_ok (ovRows_ok words_known) ovA_ok) n
def begunRow : List PRow := [⟨102, [], .agg ⟨u32s ([1779033703, 3144134277, 1013904242, 2773480762, 1359893119, 2600822924, 528734635, 1541459225] ++ kWords)⟩⟩]
theorem begun_run : rowsIs (evT Tryz.prog envB 20000) begunRow = true := by kernel_rfl
theorem begun_known : Known Tryz.prog begunRow := rows_known (knownB 20000) begun_run
end Go.Proofs.YtcddgghhikfimaaGreat
