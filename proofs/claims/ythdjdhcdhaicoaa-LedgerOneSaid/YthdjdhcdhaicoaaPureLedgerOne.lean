/- Of any rows of bytes: true. -/
import Derived.Test.YthdjdhcdhaicoaaWalkLedgerOne
namespace Go.Proofs.Ythdjdhcdhaicoaa.Pure
open Go.RowKit Go.Proofs.Ythdjdhcdhaicoaa.P Go.Proofs.YthdjdhcdhaicoaaW.PrintWords Go.Proofs.YthdjdhcdhaicoaaW.PrintLast

theorem wf8_ {x : Int} (h : (Lit.int .u8 x).wf = true) : 0 ≤ x ∧ x ≤ 255 := by
  simp [Lit.wf, IntKind.min, IntKind.max, IntKind.signed, IntKind.bits] at h
  omega
theorem LedgerOne : antiphonlaw26_LedgerOne.Pure := by
  unfold antiphonlaw26_LedgerOne.Pure
  intro l0 a b _ h0 ha hb
  unfold antiphonlaw26_LedgerOne.f
  rw [if_pos]
  exact ⟨fun r hr x hx => by have := wf8_ (h0 r hr x hx); omega, wf8_ ha, wf8_ hb⟩

end Go.Proofs.Ythdjdhcdhaicoaa.Pure
