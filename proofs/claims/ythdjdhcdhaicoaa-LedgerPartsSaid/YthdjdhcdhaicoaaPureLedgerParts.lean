/- Of any rows of bytes: true. -/
import Derived.Test.YthdjdhcdhaicoaaWalkLedgerParts
namespace Go.Proofs.Ythdjdhcdhaicoaa.Pure
open Go.RowKit Go.Proofs.Ythdjdhcdhaicoaa.P Go.Proofs.YthdjdhcdhaicoaaW.PrintWords Go.Proofs.YthdjdhcdhaicoaaW.PrintLast

theorem wf8 {x : Int} (h : (Lit.int .u8 x).wf = true) : 0 ≤ x ∧ x ≤ 255 := by
  simp [Lit.wf, IntKind.min, IntKind.max, IntKind.signed, IntKind.bits] at h
  omega
theorem LedgerParts : antiphonlaw26_LedgerParts.Pure := by
  unfold antiphonlaw26_LedgerParts.Pure
  intro l0 l1 a b c _ h0 _ h1 ha hb hc
  unfold antiphonlaw26_LedgerParts.f
  rw [if_pos]
  exact ⟨fun r hr x hx => by have := wf8 (h0 r hr x hx); omega, fun r hr x hx => by have := wf8 (h1 r hr x hx); omega, wf8 ha, wf8 hb, wf8 hc⟩

end Go.Proofs.Ythdjdhcdhaicoaa.Pure
