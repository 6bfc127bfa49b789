/- Laws of layer 4: what they come to. No condition. The statements vc_.. are printed by a program of the claimant's own. -/
import Derived.Test.YtccgpnoiageklaaCtL
import Derived.Test.YtccgpnoiageklaaCtM
namespace Go.Proofs.Ytccgpnoiageklaa
open Go.Sx
set_option maxRecDepth 100000
set_option linter.unusedVariables false
set_option linter.unusedSimpArgs false
theorem vc_oof (l : List Sx.Obj) :
  (decide (70 < n2i (llen l)) = true → true = true) ∧
    (decide (70 < n2i (llen l)) = false →
      true = true ∧
        (q_right l = false → ((!q_right l) = true → true = true) ∧ ((!q_right l) = false → false = true)) ∧
          (q_right l = true →
            ((!q_right l) = true → false = true) ∧ ((!q_right l) = false → (q_same l l && true) = true))) := by
  refine ⟨fun _ => rfl, fun _ => ⟨rfl, fun h => ⟨fun _ => rfl, fun h2 => ?_⟩, fun h => ⟨fun h2 => ?_, fun _ => ?_⟩⟩⟩
  · rw [h] at h2; simp at h2
  · rw [h] at h2; simp at h2
  · unfold q_same; simp
theorem cl_oof (l : List Sx.Obj) : CallTo Try.prog 7 [.sa 0] [.arr none 163 (.ob l)] (isV (.bo true)) (fun _ _ => False) := vch_call (inl := noInl) (ann := noAnn) (oks_cons ct_known (oks_cons ct_right (oks_cons ct_same oks_nil))) (hoks_cons hc_of hoks_nil) (vc_oof l) (by kernel_rfl)
end Go.Proofs.Ytccgpnoiageklaa
