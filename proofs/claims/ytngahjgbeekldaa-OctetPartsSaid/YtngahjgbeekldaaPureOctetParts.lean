/- Bytes taken in parts are the bytes, one behind the other; a reader that failed takes nothing and tells nothing any more. -/
import Derived.Test.YtngahjgbeekldaaWalkOctetParts
import Derived.Test.YtngahjgbeekldaaOLib
namespace Go.Proofs.Ytngahjgbeekldaa.Pure
open Go.RowKit Go.Proofs.Ytngahjgbeekldaa.P Go.Proofs.Ytngahjgbeekldaa.Lib Go.Proofs.YtngahjgbeekldaaW.PrintWords Go.Proofs.YtngahjgbeekldaaW.PrintLast

theorem OctetParts : antiphonlaw1_OctetParts.Pure := by
  intro b l _ hm hw _ _ hw1
  refine ⟨b.length + 1 + 0, ?_⟩
  unfold antiphonlaw1_OctetParts.f
  have hp : partsOk l = true := by
    unfold partsOk
    rw [List.all_eq_true]
    intro x hx
    have := u8_wf (hw1 x hx)
    simp; omega
  rw [if_pos ⟨hp, by rw [same_ref b b (by omega) 0]; simp⟩]

end Go.Proofs.Ytngahjgbeekldaa.Pure
