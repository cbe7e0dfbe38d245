/- Noughts ahead change no number; each number has one row of bytes of each width. -/
import Derived.Test.YtngahjgbeekldaaPx6
import Derived.Test.YtngahjgbeekldaaOLib
namespace Go.Proofs.Ytngahjgbeekldaa.Pure
open Go.RowKit Go.Proofs.Ytngahjgbeekldaa.P Go.Proofs.Ytngahjgbeekldaa.Lib Go.Proofs.YtngahjgbeekldaaW.PrintWords Go.Proofs.YtngahjgbeekldaaW.PrintLast

theorem OctetWide : antiphonlaw1_OctetWide.Pure := by
  intro l0 a1 _ _ hw h1
  have hb := wf_bytes hw
  have ha := u8_wf h1
  refine ⟨200, ?_⟩
  have hj : antiphonlaw1_OctetWide.j0 200 l0 a1 true = some true := rfl
  unfold antiphonlaw1_OctetWide.f antiphonlaw1_awake.f
  rw [Option.bind_some, if_pos rfl]
  by_cases h0 : l0.length = 0
  · rw [if_pos (by omega), hj]
  rw [if_neg (by omega)]
  by_cases h7 : l0.length > 7
  · rw [decide_eq_true (by omega), hj]
  rw [decide_eq_false (by omega), show (200 : Nat) = 199 + 1 from rfl, antiphonlaw1_OctetWide.j0, if_neg (by decide), get_seat l0 hb 189, Option.bind_some]
  have hmod : wrap64 a1 = a1 := w64 _ (by omega) (by omega)
  rw [hmod, Int.tmod_eq_emod_of_nonneg ha.1, w64 ((l0.length : Int) + a1 % 4) (by omega) (by omega)]
  obtain ⟨v, hv⟩ : ∃ v : Nat, mn ((l0.length : Int) + a1 % 4) 7 = (v : Int) ∧ l0.length ≤ v ∧ v ≤ 7 := by
    refine ⟨(mn ((l0.length : Int) + a1 % 4) 7).toNat, ?_⟩
    unfold mn
    split <;> omega
  obtain ⟨hv, hv1, hv2⟩ := hv
  rw [hv, w64 _ (by omega) (by omega), if_pos (by omega), if_pos (by omega), Option.bind_some]
  have hr : ((v : Int) - (l0.length : Int)).toNat = v - l0.length := by omega
  rw [hr, if_pos (by rw [List.length_replicate]; omega), Option.bind_some]
  have hcb : Bytes (List.replicate (v - l0.length) 0 ++ l0) := by
    intro x hx
    rcases List.mem_append.1 hx with hx | hx
    · rw [List.eq_of_mem_replicate hx]; omega
    · exact hb x hx
  have hcl : (List.replicate (v - l0.length) (0 : Int) ++ l0).length = v := by rw [List.length_append, List.length_replicate]; omega
  have hg : getL (List.replicate (v - l0.length) 0 ++ l0) = getL l0 := by
    unfold getL
    rw [hcl, if_pos (by omega), if_pos (by omega), num_zeros]
  have hn : getL l0 = numL l0 := by unfold getL; rw [if_pos (by omega)]
  obtain ⟨e1, e2⟩ := be_num l0.length l0 rfl hb
  obtain ⟨e3, e4⟩ := be_num v _ hcl hcb
  have hnn := num_nonneg l0 hb
  rw [num_zeros] at e3 e4
  have p1 : putL (numL l0) (v : Int) = List.replicate (v - l0.length) 0 ++ l0 := by
    unfold putL; rw [Int.toNat_natCast, if_pos ⟨by omega, by omega, hnn, e4⟩, e3]
  have p2 : putL (numL l0) (l0.length : Int) = l0 := by
    unfold putL; rw [Int.toNat_natCast, if_pos ⟨by omega, by omega, hnn, e2⟩, e1]
  have p3 : putL (numL l0) 8 = [] := by
    unfold putL; rw [if_neg (by omega)]
  rw [get_seat _ hcb 189, Option.bind_some, hg, if_pos rfl, hn, put_seat _ _ 189, Option.bind_some, p1, same_le _ _ 7 199 (by omega) (by omega) (by omega), Option.bind_some, if_pos (by simp),
    put_seat _ _ 189, Option.bind_some, p2, same_le _ _ 7 199 (by omega) (by omega) (by omega), Option.bind_some, if_pos (by simp), if_pos (by omega), put_seat _ _ 189, Option.bind_some, p3]
  rfl

end Go.Proofs.Ytngahjgbeekldaa.Pure
