-- Laid by a program of this session (wip/print2).
import Derived.Test.YtngahjgbeekldaaPx0
import Derived.Test.YtngahjgbeekldaaPx17
import Derived.Test.YtngahjgbeekldaaPx19
import Derived.Test.YtngahjgbeekldaaPx21
namespace Go.Proofs.Ytngahjgbeekldaa.P
open Go.RowKit Go.Proofs.YtngahjgbeekldaaW.PrintWords Go.Proofs.YtngahjgbeekldaaW.PrintLast Go.Proofs.YtngahjgbeekldaaW.PrintMore
attribute [local go_sem] max2_int min2_int max_two min_two max_three min_three max_four min_four   -- for this text's walks alone
set_option linter.unusedVariables false
set_option linter.unusedSimpArgs false

/-! ### octet_Reader_Rest: function 23 -/
/-- Rest of a reader that hasn't failed: all that is left. -/
theorem octet_Reader_Rest.yes (w0 w : World) (g : Nat) (l : List Int) (h : IsRd w0 w g l false) (hB : Below w0.heap.size w0 w) (hl : l.length < 140737488355328) :
    Calls Try.prog 23 #[.pointer (some ⟨g, 0, none⟩)] w fun e w' => ∃ v, e = .returned v ∧ Kd.R (Kd.int .u8) 5 w' w.heap.size (fun _ => True) v l ∧ IsRd w0 w' g [] false ∧ w.grownBy w' (some g) := by
  have H := Aside0.mk h
  have HB := Aside0.mk hB
  have HL := Aside0.mk hl
  clear h hB
  go_enter Try.func23, Try.ntmps23
  go_wp2_with (first
    | (go_at_call 20; refine (octet_Reader_Left.rd w0 _ g l false H.out).mono ?_; rintro e w1 ⟨rfl, rfl⟩)
    | (go_at_call 18; refine (octet_Reader_Raw.yes w0 _ g l l.length H.out HB.out (by omega) (Int.le_refl _) HL.out).mono ?_; rintro e w2 ⟨v, rfl, hR, hI2, hg2⟩; obtain ⟨A1, c1, rfl, hc1, hC1⟩ := Kd.R_reads hR; have HR := Aside0.mk hR; have HI2 := Aside0.mk hI2; have Hg2 := Aside0.mk hg2; clear hR hI2 hg2 hc1 hC1))
  go_ret
  have hR := HR.out
  have hI := HI2.out
  rw [Int.toNat_natCast, List.take_length] at hR
  rw [Int.toNat_natCast, List.drop_length] at hI
  exact ⟨_, rfl, by simpa using hR, hI, Hg2.out⟩

/-- Rest of a reader that has failed: nothing. -/
theorem octet_Reader_Rest.no (w0 w : World) (g : Nat) (l : List Int) (h : IsRd w0 w g l true) :
    Calls Try.prog 23 #[.pointer (some ⟨g, 0, none⟩)] w fun e w' => e = .returned (.slice none 0 0) ∧ IsRd w0 w' g l true ∧ w.grownBy w' (some g) := by
  have H := Aside0.mk h
  clear h
  go_enter Try.func23, Try.ntmps23
  go_wp2_with (first
    | (go_at_call 20; refine (octet_Reader_Left.rd w0 _ g l true H.out).mono ?_; rintro e w1 ⟨rfl, rfl⟩)
    | (go_at_call 18; refine (octet_Reader_Raw.no w0 _ g l true l.length H.out (Or.inl rfl)).mono ?_; rintro e w2 ⟨rfl, hI2, hg2⟩; have HI2 := Aside0.mk hI2; have Hg2 := Aside0.mk hg2; clear hI2 hg2))
  go_ret
  exact ⟨rfl, HI2.out, Hg2.out⟩

end Go.Proofs.Ytngahjgbeekldaa.P
