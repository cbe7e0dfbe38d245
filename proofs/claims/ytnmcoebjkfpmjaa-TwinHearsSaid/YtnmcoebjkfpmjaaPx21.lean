-- Written by this session: the walk of TwinKnown, and of what its laws ask first.
import Derived.Test.YtnmcoebjkfpmjaaTwin
namespace Go.Proofs.Ytnmcoebjkfpmjaa.P
open Go.RowKit Go.Proofs.YtnmcoebjkfpmjaaW.PrintWords Go.Proofs.YtnmcoebjkfpmjaaW.PrintLast Go.Proofs.YtnmcoebjkfpmjaaW.PrintMore
set_option linter.unusedVariables false
set_option linter.unusedSimpArgs false
theorem below_tw {w W W1 : World} {g : Nat} (h : Below w.heap.size w W) (hg : W.grownBy W1 (some g)) (hge : w.heap.size ≤ g) : Below w.heap.size w W1 := h.grown hg h.size (fun k hk => by cases hk; exact hge)
set_option maxHeartbeats 4000000 in
set_option maxRecDepth 100000 in
theorem antiphonlaw14_awake.calls (w : World) :
    Calls Try.prog 69 #[] w fun e w' => e = .returned (.bool true) ∧ Below w.heap.size w w' := by
  go_enter Try.func69, Try.ntmps69
  go_wp2_with fail
  refine (twin_New.yes _ 1 2 (by decide) (by decide) (by decide) (by decide)).mono ?_
  rintro e w1 ⟨rfl, hB1, hT1⟩
  generalize hg : w.heap.size = g at hT1
  have HB1 := Aside0.mk hB1
  have HT1 := Aside0.mk hT1
  clear hB1 hT1
  go_wp2_with fail
  refine (twin_Start.yes _ g 1 2 0 0 0 HT1.out (by decide) (by decide)).mono ?_
  rintro e w2 ⟨rfl, hT2, hG2⟩
  have HT2 := Aside0.mk hT2
  have HG2 := Aside0.mk hG2
  clear hT2 hG2
  go_wp2_with fail
  have hne2 : w2.heap.size ≠ g := Nat.ne_of_gt HT2.out.lt
  have hp2 : (w2.alloc (.cells #[.int .i64 0, .int .i64 0, .bool false, .int .i64 2, .int .i64 2, .int .i64 0, .int .i64 0, .bool true, .slice none 0 0] 25)).heap[w2.heap.size]? = some (.cells #[.int .i64 0, .int .i64 0, .bool false, .int .i64 2, .int .i64 2, .int .i64 0, .int .i64 0, .bool true, .slice none 0 0] 25 (0, 0)) := blk_new w2 _
  have HT2' := HT2.out.below (below_alloc (Below.refl _ _) (.cells #[.int .i64 0, .int .i64 0, .bool false, .int .i64 2, .int .i64 2, .int .i64 0, .int .i64 0, .bool true, .slice none 0 0] 25))
  have hB2 : Below w.heap.size w (w2.alloc (.cells #[.int .i64 0, .int .i64 0, .bool false, .int .i64 2, .int .i64 2, .int .i64 0, .int .i64 0, .bool true, .slice none 0 0] 25)) := below_alloc (below_tw HB1.out HG2.out (Nat.le_of_eq hg)) _
  refine (twin_Tick.wait _ g 1 2 1 0 HT2' (by decide) (by decide)).mono ?_
  rintro e w3 ⟨rfl, hT3, hG3⟩
  have hp3 := (hG3.block _ (blk_lt hp2) (fun e => hne2 (by injection e))).trans hp2
  have hB3 := below_tw hB2 hG3 (Nat.le_of_eq hg)
  have HP3 := Aside0.mk hp3
  have HB3 := Aside0.mk hB3
  have HT3 := Aside0.mk hT3
  clear hT3 hG3 hp3 hB3 hp2 HT2' hB2
  go_wp2_with fail
  refine (twin_Tick.alone _ g 1 2 1 1 HT3.out (by decide) (by decide) (by decide)).mono ?_
  rintro e w4 ⟨rfl, hT4, hG4⟩
  have hp4 := (hG4.block _ (blk_lt HP3.out) (fun e => hne2 (by injection e))).trans HP3.out
  have k4 : w4.cell? ⟨w2.heap.size, 4, none⟩ = some (.int .i64 2) := (blk_cell hp4 4).trans rfl
  have k7 : w4.cell? ⟨w2.heap.size, 7, none⟩ = some (.bool true) := (blk_cell hp4 7).trans rfl
  have HB4 := Aside0.mk (below_tw HB3.out hG4 (Nat.le_of_eq hg))
  have HT4 := Aside0.mk hT4
  clear hT4 hG4 hp4
  go_wp2_with (first
    | (go_at_call 73; refine (twin_State.rd _ g 1 2 2 1 2 HT4.out).mono ?_; rintro e w5 ⟨rfl, rfl⟩)
    | fail)
  go_ret
  exact ⟨rfl, HB4.out⟩
/-- Chapter 14's example: true. -/
def antiphonlaw14_TwinKnown.f : Option Bool := some true
set_option maxHeartbeats 4000000 in
set_option maxRecDepth 100000 in
theorem antiphonlaw14_TwinKnown.calls (r : Bool) (w : World) (h : antiphonlaw14_TwinKnown.f = some r) :
    Calls Try.prog 20 #[] w fun e w' => e = .returned (.bool r) ∧ Below w.heap.size w w' := by
  obtain rfl := Option.some.inj h
  clear h
  have HMAY := Aside0.mk (show pdu_May.f 10 0 0 true 2 2 0 0 true [] = some true by decide +kernel)
  go_enter Try.func20, Try.ntmps20
  go_wp2_with fail
  refine (antiphonlaw14_awake.calls _).mono ?_
  rintro e wa ⟨rfl, hBa⟩
  have HBa := Aside0.mk hBa
  clear hBa
  go_wp2_with fail
  refine (twin_New.no _ 0 1 (.inl (by decide))).mono ?_
  rintro e wb ⟨rfl, hBb⟩
  have HBb := Aside0.mk (below_step HBa.out hBb)
  clear hBb
  go_wp2_with fail
  refine (twin_New.yes _ 2 2 (by decide) (by decide) (by decide) (by decide)).mono ?_
  rintro e w1 ⟨rfl, hB1, hT1⟩
  have hge : w.heap.size ≤ wb.heap.size := HBb.out.size
  generalize hg : wb.heap.size = g at hT1 hge
  have HB1 := Aside0.mk (below_step HBb.out hB1)
  have HT1 := Aside0.mk hT1
  clear hB1 hT1 hg
  go_wp2_with fail
  refine (twin_Hear.deaf _ g 2 2 0 0 0 HT1.out (by decide) 0 0 true 2 2 0 0 true (.slice none 0 0)).mono ?_
  rintro e w2 ⟨rfl, hT2, hG2⟩
  have HB2 := Aside0.mk (below_tw HB1.out hG2 hge)
  have HT2 := Aside0.mk hT2
  clear hT2 hG2
  go_wp2_with fail
  refine (twin_Start.yes _ g 2 2 0 0 0 HT2.out (by decide) (by decide)).mono ?_
  rintro e w3 ⟨rfl, hT3, hG3⟩
  have HB3 := Aside0.mk (below_tw HB2.out hG3 hge)
  have HT3 := Aside0.mk hT3
  clear hT3 hG3
  go_wp2_with fail
  refine (twin_Start.no _ g 2 2 1 0 HT3.out (by decide)).mono ?_
  rintro e w4 ⟨rfl, hT4, hG4⟩
  have HB4 := Aside0.mk (below_tw HB3.out hG4 hge)
  have HT4 := Aside0.mk hT4
  clear hT4 hG4
  go_wp2_with fail
  refine (twin_Hear.asks 10 _ g 2 2 1 0 (HT4.out.below (below_alloc (Below.refl _ _) _)) 0 0 true 2 2 0 0 true none 0 [] true (Kd.C_nil _ _) (by decide) HMAY.out).mono ?_
  rintro e w5 ⟨rfl, hT5, hG5⟩
  have HB5 := Aside0.mk (below_tw (below_alloc HB4.out _) hG5 hge)
  have HT5 := Aside0.mk (show IsTw w5 g 2 2 3 1 0 from hT5)
  have hans : (true && ansB 0 0 true 2 2 true) = true := rfl
  rw [hans]
  clear hT5 hG5
  go_wp2_with (first
    | (go_at_call 73; refine (twin_State.rd _ g 2 2 3 1 0 HT5.out).mono ?_; rintro e w6 ⟨rfl, rfl⟩)
    | fail)
  go_ret
  exact ⟨rfl, HB5.out⟩
end Go.Proofs.Ytnmcoebjkfpmjaa.P
