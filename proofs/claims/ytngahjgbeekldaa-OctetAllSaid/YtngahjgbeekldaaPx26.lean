-- Laid by a program of this session (wip/print2).
import Derived.Test.YtngahjgbeekldaaPx0
import Derived.Test.YtngahjgbeekldaaPx15
import Derived.Test.YtngahjgbeekldaaPx17
import Derived.Test.YtngahjgbeekldaaPx18
namespace Go.Proofs.Ytngahjgbeekldaa.P
open Go.RowKit Go.Proofs.YtngahjgbeekldaaW.PrintWords Go.Proofs.YtngahjgbeekldaaW.PrintLast Go.Proofs.YtngahjgbeekldaaW.PrintMore
attribute [local go_sem] max2_int min2_int max_two min_two max_three min_three max_four min_four   -- for this text's walks alone
set_option linter.unusedVariables false
set_option linter.unusedSimpArgs false

/-! ### antiphonlaw1_two: function 25 -/
set_option maxHeartbeats 4000000 in
set_option maxRecDepth 100000 in
theorem antiphonlaw1_two.yes (k : Nat) (w0 w : World) (g : Nat) (l : List Int) (r : Int) (h : IsRd w0 w g l false) (hB : Below w0.heap.size w0 w) (hn : 2 ≤ l.length) (hl : l.length < 140737488355328) (hG : octet_Get.f k (l.take 2) = some r) :
    Calls Try.prog 25 #[.pointer (some ⟨g, 0, none⟩)] w fun e w' => e = .returned (.int .i64 r) ∧ IsRd w0 w' g (l.drop 2) false ∧ w.grownBy w' (some g) := by
  have HI := Aside0.mk h
  have HB := Aside0.mk hB
  have HG := Aside0.mk hG
  clear h hB hG
  go_enter Try.func25, Try.ntmps25
  go_wp2_with fail
  refine (octet_Reader_Num.yes k w0 _ g l 2 r HI.out HB.out (by decide) (by decide) (by omega) hl HG.out).mono ?_
  rintro e w' ⟨rfl, hI, hg⟩
  have HI' := Aside0.mk hI
  have HG' := Aside0.mk hg
  clear hI hg
  go_wp2_with fail
  go_ret
  exact ⟨rfl, HI'.out, HG'.out⟩
set_option maxHeartbeats 4000000 in
set_option maxRecDepth 100000 in
theorem antiphonlaw1_two.no (w0 w : World) (g : Nat) (l : List Int) (h : IsRd w0 w g l false) (hB : Below w0.heap.size w0 w) (hn : l.length < 2) :
    Calls Try.prog 25 #[.pointer (some ⟨g, 0, none⟩)] w fun e w' => e = .returned (.int .i64 0) ∧ IsRd w0 w' g l true ∧ w.grownBy w' (some g) := by
  have HI := Aside0.mk h
  have HB := Aside0.mk hB
  clear h hB
  go_enter Try.func25, Try.ntmps25
  go_wp2_with fail
  refine (octet_Reader_Num.no w0 _ g l false 2 HI.out HB.out (Or.inr (Or.inr (Or.inr (by omega))))).mono ?_
  rintro e w' ⟨rfl, hI, hg⟩
  have HI' := Aside0.mk hI
  have HG' := Aside0.mk hg
  clear hI hg
  go_wp2_with fail
  go_ret
  exact ⟨rfl, HI'.out, HG'.out⟩

end Go.Proofs.Ytngahjgbeekldaa.P
