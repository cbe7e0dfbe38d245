/- So many numbers read one behind the other are they, or none, where they do not reach. -/
import Derived.Test.YtngahjgbeekldaaWalkOctetAll
import Derived.Test.YtngahjgbeekldaaOLib
namespace Go.Proofs.Ytngahjgbeekldaa.Pure
open Go.RowKit Go.Proofs.Ytngahjgbeekldaa.P Go.Proofs.Ytngahjgbeekldaa.Lib Go.Proofs.YtngahjgbeekldaaW.PrintWords Go.Proofs.YtngahjgbeekldaaW.PrintLast

theorem OctetAll : antiphonlaw1_OctetAll.Pure := by
  intro l n hm _ hw _
  unfold antiphonlaw1_OctetAll.f
  have hp : wordsOk l = true := by
    unfold wordsOk
    rw [List.all_eq_true]
    intro x hx
    have h := hw x hx
    simp [Lit.wf, IntKind.min, IntKind.max, IntKind.signed, IntKind.bits] at h
    simp; omega
  rw [if_pos hp]

end Go.Proofs.Ytngahjgbeekldaa.Pure
