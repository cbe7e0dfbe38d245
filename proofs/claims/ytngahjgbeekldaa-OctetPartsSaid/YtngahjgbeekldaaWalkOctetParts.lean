-- Laid by a program of this session (wip/print2).
import Derived.Test.YtngahjgbeekldaaPx9
import Derived.Test.YtngahjgbeekldaaOpens
namespace Go.Proofs.Ytngahjgbeekldaa.P
open Go.RowKit Go.Proofs.YtngahjgbeekldaaW.PrintWords Go.Proofs.YtngahjgbeekldaaW.PrintLast Go.Proofs.YtngahjgbeekldaaW.PrintMore
set_option linter.unusedVariables false
def antiphonlaw1_OctetParts.Pure : Prop := ∀ (l0 : List Int) (l1 : List Int), l0.length ≤ maxLen → l0.length * 1 ≤ 140737488351232 → (∀ x ∈ l0, (Lit.int .u8 x).wf = true) → l1.length ≤ maxLen → l1.length * 1 ≤ 140737488351232 → (∀ x ∈ l1, (Lit.int .u8 x).wf = true) → ∃ k, antiphonlaw1_OctetParts.f k l0 l1 = some true
theorem antiphonlaw1_OctetParts.walk (P : antiphonlaw1_OctetParts.Pure) (a0 : Option Addr) (n0 c0 : Nat) (z0 : List Int) (a1 : Option Addr) (n1 c1 : Nat) (z1 : List Int) (w : World) (w0 : Open.IsRow .u8 w a0 n0 c0 z0) (y0 : n0 * 1 ≤ 140737488351232) (w1 : Open.IsRow .u8 w a1 n1 c1 z1) (y1 : n1 * 1 ≤ 140737488351232) :
    Calls Try.prog 8 #[.slice a0 n0 c0, .slice a1 n1 c1] w fun e w' => e = .returned (.bool true) ∧ Below w.heap.size w w' := by
  obtain ⟨l0, rfl, hr0, hm0, hw0, hc0⟩ := ReadsInt.ofRowC w0
  obtain ⟨l1, rfl, hr1, hm1, hw1, hc1⟩ := ReadsInt.ofRowC w1
  obtain ⟨k, h⟩ := P l0 l1 hm0 y0 hw0 hm1 y1 hw1
  refine (antiphonlaw1_OctetParts.calls k _ _ l0 _ _ l1 true w (Kd.C_of_reads (d := (0 : Int)) (h1 := fun _ => rfl) hr0) hc0 (Kd.C_of_reads (d := (0 : Int)) (h1 := fun _ => rfl) hr1) hc1 h).mono ?_
  rintro e w' ⟨rfl, hd⟩
  exact ⟨rfl, hd⟩
end Go.Proofs.Ytngahjgbeekldaa.P
