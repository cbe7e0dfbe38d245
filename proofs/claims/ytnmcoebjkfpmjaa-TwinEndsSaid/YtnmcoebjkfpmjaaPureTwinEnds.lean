/- Who asks and hears nothing is alone just then, and asked so often as it may; who hears itself is two at once, and asks no more. -/
import Derived.Test.YtnmcoebjkfpmjaaWalkTwinEnds
namespace Go.Proofs.Ytnmcoebjkfpmjaa.Pure
open Go.RowKit Go.Proofs.Ytnmcoebjkfpmjaa.P Go.Proofs.YtnmcoebjkfpmjaaW.PrintWords Go.Proofs.YtnmcoebjkfpmjaaW.PrintLast

theorem u8_of {x : Int} (h : (Lit.int .u8 x).wf = true) : 0 ≤ x ∧ x ≤ 255 := by
  simp [Lit.wf, IntKind.min, IntKind.max, IntKind.signed, IntKind.bits] at h; omega
theorem TwinEnds : antiphonlaw14_TwinEnds.Pure := by
  intro a b c ha hb hc
  unfold antiphonlaw14_TwinEnds.f
  rw [if_pos ⟨u8_of ha, u8_of hb, u8_of hc⟩]

end Go.Proofs.Ytnmcoebjkfpmjaa.Pure
