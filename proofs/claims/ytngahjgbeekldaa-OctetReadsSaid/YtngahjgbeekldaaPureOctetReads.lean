/- Any bytes, read in whatever way: the program's reader and the reference's answer alike, fail alike, and have as many left. -/
import Derived.Test.YtngahjgbeekldaaWalkOctetReads
import Derived.Test.YtngahjgbeekldaaOLib
namespace Go.Proofs.Ytngahjgbeekldaa.Pure
open Go.RowKit Go.Proofs.Ytngahjgbeekldaa.P Go.Proofs.Ytngahjgbeekldaa.Lib Go.Proofs.YtngahjgbeekldaaW.PrintWords Go.Proofs.YtngahjgbeekldaaW.PrintLast

theorem OctetReads : antiphonlaw1_OctetReads.Pure := by
  intro l0 l1 _ hw _ _
  unfold antiphonlaw1_OctetReads.f
  rw [if_pos (fun x hx => wf_bytes hw x hx)]

end Go.Proofs.Ytngahjgbeekldaa.Pure
