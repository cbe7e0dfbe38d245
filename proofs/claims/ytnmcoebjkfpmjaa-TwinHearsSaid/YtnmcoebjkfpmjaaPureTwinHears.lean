/- While it does not ask, or of anything but its answer, nothing it hears changes how it stands. -/
import Derived.Test.YtnmcoebjkfpmjaaWalkTwinHears
import Derived.Test.YtnmcoebjkfpmjaaLib
namespace Go.Proofs.Ytnmcoebjkfpmjaa.Pure
open Go.RowKit Go.Proofs.Ytnmcoebjkfpmjaa.P Go.Proofs.Ytnmcoebjkfpmjaa.Lib Go.Proofs.YtnmcoebjkfpmjaaW.PrintWords Go.Proofs.YtnmcoebjkfpmjaaW.PrintLast

theorem u8_is {x : Int} (h : (Lit.int .u8 x).wf = true) : 0 ≤ x ∧ x ≤ 255 := by
  simp [Lit.wf, IntKind.min, IntKind.max, IntKind.signed, IntKind.bits] at h; omega
theorem TwinHears : antiphonlaw14_TwinHears.Pure := by
  intro a b t f resp form kind ns nr poll info ha hb
  intros
  refine ⟨5, ?_⟩
  unfold antiphonlaw14_TwinHears.f
  rw [if_pos ⟨u8_is ha, u8_is hb⟩, show (5 : Nat) = 1 + 4 from rfl, may_pdu, Option.bind_some, show (1 + 4 : Nat) = 0 + 5 from rfl, may_ref, Option.bind_some, if_pos rfl]

end Go.Proofs.Ytnmcoebjkfpmjaa.Pure
