-- Laid by a program of this session (wip/print2).
import Derived.Test.YtnmcoebjkfpmjaaOpen
namespace Go.Proofs.Ytnmcoebjkfpmjaa.Open
open Go.ChangeShapes Go.WideShapes Go.RowKit Go.Deep
open Go.Proofs.YtnmcoebjkfpmjaaW.PrintWords
set_option linter.unusedVariables false
set_option maxRecDepth 100000 in
theorem open_s25 {H : Type} {enc : TypeId × Value → H} {w : World} {base : Nat} {held : Bool} {r : Reach} {b0 : Nat} {v : Value} {d : DataW H} {p : List MemPlace}
    (hv : Value.okWide Try.prog w r b0 25 v) (h : DataW.Trod enc Try.prog w base (fun _ => true) held 25 v d p) :
    ∃ (a0 : Int) (a1 : Int) (a2 : Bool) (a3 : Int) (a4 : Int) (a5 : Int) (a6 : Int) (a7 : Bool) (A8 : Option Addr) (n8 c8 : Nat) (z8 : List Int), v = .agg #[.int .i64 a0, .int .i64 a1, .bool a2, .int .i64 a3, .int .i64 a4, .int .i64 a5, .int .i64 a6, .bool a7, .slice A8 n8 c8] ∧ (Lit.int .i64 a0).wf = true ∧ (Lit.int .i64 a1).wf = true ∧ (Lit.int .i64 a3).wf = true ∧ (Lit.int .i64 a4).wf = true ∧ (Lit.int .i64 a5).wf = true ∧ (Lit.int .i64 a6).wf = true ∧ IsRow .u8 w A8 n8 c8 z8 ∧ True := by
  obtain ⟨cs, rfl, hsz, n, hf⟩ := open_fields Try.underlying25 (by kernel_rfl) (by kernel_rfl) hv h
  obtain ⟨u0, y0, g0, h0⟩ := hf 0 _ rfl
  obtain ⟨u1, y1, g1, h1⟩ := hf 1 _ rfl
  obtain ⟨u2, y2, g2, h2⟩ := hf 2 _ rfl
  obtain ⟨u3, y3, g3, h3⟩ := hf 3 _ rfl
  obtain ⟨u4, y4, g4, h4⟩ := hf 4 _ rfl
  obtain ⟨u5, y5, g5, h5⟩ := hf 5 _ rfl
  obtain ⟨u6, y6, g6, h6⟩ := hf 6 _ rfl
  obtain ⟨u7, y7, g7, h7⟩ := hf 7 _ rfl
  obtain ⟨u8, y8, g8, h8⟩ := hf 8 _ rfl
  obtain ⟨a0, rfl, w0⟩ := field_int Try.underlying3 h0
  obtain ⟨a1, rfl, w1⟩ := field_int Try.underlying3 h1
  obtain ⟨a2, rfl⟩ := field_bool Try.underlying4 h2
  obtain ⟨a3, rfl, w3⟩ := field_int Try.underlying3 h3
  obtain ⟨a4, rfl, w4⟩ := field_int Try.underlying3 h4
  obtain ⟨a5, rfl, w5⟩ := field_int Try.underlying3 h5
  obtain ⟨a6, rfl, w6⟩ := field_int Try.underlying3 h6
  obtain ⟨a7, rfl⟩ := field_bool Try.underlying4 h7
  obtain ⟨A8, n8, c8, z8, rfl, w8⟩ := field_ints Try.underlying23 Try.underlying5 (by kernel_rfl) h8
  refine ⟨a0, a1, a2, a3, a4, a5, a6, a7, A8, n8, c8, z8, ?_, w0, w1, w3, w4, w5, w6, w8, trivial⟩
  obtain ⟨l⟩ := cs
  match l, hsz with
  | [x0, x1, x2, x3, x4, x5, x6, x7, x8], _ =>
    simp at g0 g1 g2 g3 g4 g5 g6 g7 g8
    subst g0 g1 g2 g3 g4 g5 g6 g7 g8
    rfl
end Go.Proofs.Ytnmcoebjkfpmjaa.Open
