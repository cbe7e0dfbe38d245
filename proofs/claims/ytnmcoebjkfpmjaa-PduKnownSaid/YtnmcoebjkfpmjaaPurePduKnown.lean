import Derived.Test.YtnmcoebjkfpmjaaPx4
namespace Go.Proofs.Ytnmcoebjkfpmjaa.Pure
open Go.RowKit Go.Proofs.Ytnmcoebjkfpmjaa.P Go.Proofs.YtnmcoebjkfpmjaaW.PrintWords Go.Proofs.YtnmcoebjkfpmjaaW.PrintLast

/-- YOURS: ∃ k, antiphonlaw6_PduKnown.f k  = some true
What it reaches (each with k first where it has rounds; `.mono`: more rounds tell the same; `.l0`, ..: its loops, with `.mono_l`): pdu_within.f, pdu_kind.f, pdu_May.f, bytes_Clone.f, octet_New.f, octet_may.f, octet_Get.f, octet_Reader_Raw.f, octet_Reader_Num.f, octet_Reader_Fail.f, pdu_codes.f, octet_Reader_Left.f, octet_Reader_Rest.f, pdu_Decode.f, pdu_Code.f, pdu_one.f, pdu_Encode.f, antiphonref1_Same.f, antiphonref6_Same.f, antiphonlaw6_awake.f, antiphonlaw6_PduKnown.f -/
theorem PduKnown : antiphonlaw6_PduKnown.Pure := by
  exact ⟨40, by decide +kernel⟩

end Go.Proofs.Ytnmcoebjkfpmjaa.Pure
