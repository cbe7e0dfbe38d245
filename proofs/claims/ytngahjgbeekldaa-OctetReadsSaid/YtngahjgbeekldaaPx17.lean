-- Laid by a program of this session (wip/print2).
import Derived.Test.YtngahjgbeekldaaPx0
import Derived.Test.YtngahjgbeekldaaPx28
namespace Go.Proofs.Ytngahjgbeekldaa.P
open Go.RowKit Go.Proofs.YtngahjgbeekldaaW.PrintWords Go.Proofs.YtngahjgbeekldaaW.PrintLast Go.Proofs.YtngahjgbeekldaaW.PrintMore
attribute [local go_sem] max2_int min2_int max_two min_two max_three min_three max_four min_four   -- for this text's walks alone
set_option linter.unusedVariables false
set_option linter.unusedSimpArgs false

/-! ### octet_New: function 16 -/
/-- A reader lies in block g: what is left, whether it failed; its bytes lay in w0 already. -/
def IsRd (w0 W : World) (g : Nat) (l : List Int) (b : Bool) : Prop :=
  ∃ A0 c0, W.heap[g]? = some (.cells #[.slice A0 l.length c0, .bool b] 53 (0, 0)) ∧ w0.heap.size ≤ g ∧ Kd.C (Kd.int .u8) w0 A0 l.length l ∧ l.length ≤ c0

theorem IsRd.below {w0 W W1 : World} {g : Nat} {l : List Int} {b : Bool} (h : IsRd w0 W g l b) (hw : Below W.heap.size W W1) : IsRd w0 W1 g l b := by
  obtain ⟨A0, c0, hb, h2⟩ := h
  exact ⟨A0, c0, (hw.block g (blk_lt hb)).trans hb, h2⟩
theorem IsRd.drewN {w0 W : World} {g : Nat} {l : List Int} {b : Bool} (h : IsRd w0 W g l b) (m : Nat) : IsRd w0 (W.drewN m) g l b := h
theorem IsRd.drew {w0 W : World} {g : Nat} {l : List Int} {b : Bool} (h : IsRd w0 W g l b) : IsRd w0 W.drew g l b := h

/-- New: a reader of a copy. -/
theorem octet_New.calls (A0 : Option Addr) (c0 : Nat) (l0 : List Int) (w : World) (hr0 : Kd.C (Kd.int .u8) w A0 l0.length l0) (hc0 : l0.length ≤ c0) (hl : l0.length < 140737488355328) :
    Calls Try.prog 16 #[.slice A0 l0.length c0] w fun e w' => ∃ (g : Nat) (w1 : World), e = .returned (.pointer (some ⟨g, 0, none⟩)) ∧ Below w.heap.size w w1 ∧ Below w1.heap.size w1 w' ∧ IsRd w1 w' g l0 false := by
  have HR := Aside0.mk hr0
  have HC := Aside0.mk hc0
  clear hr0 hc0
  have h0 : bytes_Clone.f l0 = some l0 := by unfold bytes_Clone.f; rw [if_pos hl]
  have H0 := Aside0.mk h0
  clear h0
  go_enter Try.func16, Try.ntmps16
  go_wp2_with (go_at_call 27; refine (bytes_Clone.calls _ _ _ _ _ HR.out HC.out H0.out).mono ?_; rintro e w1 ⟨v0, rfl, hR, hB⟩; obtain ⟨A1, c1, rfl, hc1, hC1⟩ := Kd.R_reads hR; have HC1 := Aside0.mk hC1; have Hc1 := Aside0.mk hc1; have HB1 := Aside0.mk hB; clear hR hB hC1 hc1)
  go_ret
  exact ⟨_, w1, rfl, HB1.out, below_alloc (Below.refl _ _) _, A1, c1, heap_alloc_new _ _, Nat.le_refl _, HC1.out, Hc1.out⟩

end Go.Proofs.Ytngahjgbeekldaa.P
