/-
  The law, run: it answers yes.
-/
import Derived.Test.YtcddgghhikfimaaGreatSC
import Derived.Test.YtcddgghhikfimaaGreatSD0
import Derived.Test.YtcddgghhikfimaaGreatSD1
import Derived.Test.YtcddgghhikfimaaGreatSD2
namespace Go.Proofs.YtcddgghhikfimaaGreat
open Go Go.Ev
set_option maxRecDepth 1000000
noncomputable def blocks : List SRow := [block0] ++ [block1] ++ [block2] ++ [block3] ++ [block4] ++ [block5]
theorem blocks_known : SKnown Tryz.prog 139 blocks := (((((block0_known.append block1_known).append block2_known).append block3_known).append block4_known).append block5_known)
noncomputable def envC : Env := ⟨ext, ovOr (ovRows begunRow) (ovOr (ovAt 139 (pressG blocks)) ovA)⟩
theorem knownC (n : Nat) : CallOK Tryz.prog (evT Tryz.prog envC n) := evT_ok (E := envC) mixed ext_at (ovOr_ok (ovRows_ok begun_known) (ovOr_ok (ovAt_ok (pressG_ok blocks_known)) ovA_ok)) n
noncomputable def isYes (x : Option (Value × AW)) : Bool := match x with | some (.bool b, _) => b | _ => false
theorem law_run : isYes ((evT Tryz.prog envC 100000).call 3 [] ⟨.e, 0⟩) = true := by kernel_rfl
theorem law_known : ∃ A1, CallAt Tryz.prog 3 [] ⟨.e, 0⟩ (.bool true) A1 := by
  have h := law_run
  unfold isYes at h
  split at h
  · rename_i b A1 hc
    subst h
    exact ⟨A1, knownC 100000 _ _ _ _ _ hc⟩
  · cases h
end Go.Proofs.YtcddgghhikfimaaGreat
