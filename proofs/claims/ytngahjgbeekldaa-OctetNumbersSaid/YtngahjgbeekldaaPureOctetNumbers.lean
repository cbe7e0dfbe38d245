/- Any number in any width is written alike by both, any bytes are read alike; what was written is read back. -/
import Derived.Test.YtngahjgbeekldaaPx4
import Derived.Test.YtngahjgbeekldaaOLib
namespace Go.Proofs.Ytngahjgbeekldaa.Pure
open Go.RowKit Go.Proofs.Ytngahjgbeekldaa.P Go.Proofs.Ytngahjgbeekldaa.Lib Go.Proofs.YtngahjgbeekldaaW.PrintWords Go.Proofs.YtngahjgbeekldaaW.PrintLast

theorem OctetNumbers : antiphonlaw1_OctetNumbers.Pure := by
  intro a0 a1 l2 _ _ _ _ hw
  have hb := wf_bytes hw
  refine ⟨200, ?_⟩
  unfold antiphonlaw1_OctetNumbers.f antiphonlaw1_awake.f
  rw [Option.bind_some, if_pos rfl]
  by_cases hl : (l2.length : Int) > 100
  · rw [if_pos hl]
  rw [if_neg hl, put_seat a0 a1 190, Option.bind_some, put_ref a0 a1 190, Option.bind_some, same_le _ _ 7 200 (by omega) (putL_le _ _) (by omega), Option.bind_some, if_pos (by simp), get_seat l2 hb 190, Option.bind_some,
    get_ref l2 hb 189, Option.bind_some, if_pos rfl]
  by_cases hz : (putL a0 a1).length = 0
  · rw [if_pos (by omega)]
  · rw [if_neg (by omega), get_seat _ (putL_bytes _ _) 190, Option.bind_some, get_put _ _ hz]
    simp

end Go.Proofs.Ytngahjgbeekldaa.Pure
