-- Laid by a program of this session (wip/print2).
import Derived.Test.YtngahjgbeekldaaPx0
import Derived.Test.YtngahjgbeekldaaPx12
import Derived.Test.YtngahjgbeekldaaPx13
import Derived.Test.YtngahjgbeekldaaPx15
import Derived.Test.YtngahjgbeekldaaPx17
import Derived.Test.YtngahjgbeekldaaPx18
import Derived.Test.YtngahjgbeekldaaPx21
namespace Go.Proofs.Ytngahjgbeekldaa.P
open Go.RowKit Go.Proofs.YtngahjgbeekldaaW.PrintWords Go.Proofs.YtngahjgbeekldaaW.PrintLast Go.Proofs.YtngahjgbeekldaaW.PrintMore
attribute [local go_sem] max2_int min2_int max_two min_two max_three min_three max_four min_four   -- for this text's walks alone
set_option linter.unusedVariables false
set_option linter.unusedSimpArgs false

/-! ### antiphonlaw1_awake: function 10 -/
/-- A row of bytes that lies in a block of its own. -/
theorem lit_C {W : World} {g : Nat} {e : TypeId} {xs : List Int} {cs : Array Value} (h : W.heap[g]? = some (.cells cs e (0, 0))) (hcs : cs = (xs.map (Value.int .u8)).toArray) (hl : xs.length ≤ 9223372036854775807) : Kd.C (Kd.int .u8) W (some ⟨g, 0, none⟩) xs.length xs := by
  subst hcs
  refine Kd.C_of_reads (d := (0 : Int)) (h1 := fun _ => rfl) ⟨rfl, hl, fun _ => ⟨⟨g, 0, none⟩, rfl, fun j hj => ?_⟩⟩
  have ha : (Addr.add ⟨g, 0, none⟩ j) = ⟨g, j, none⟩ := by unfold Addr.add; split <;> simp_all
  rw [ha]
  refine (blk_cell h j).trans ?_
  rw [List.getD_eq_getElem?_getD, List.getElem?_eq_getElem hj]
  simp [hj]
/-- The law's own first test, true. -/
def antiphonlaw1_awake.f : Option Bool := some true
set_option maxHeartbeats 4000000 in
set_option maxRecDepth 100000 in
theorem antiphonlaw1_awake.calls (r : Bool) (w : World) (h : antiphonlaw1_awake.f = some r) :
    Calls Try.prog 10 #[] w fun e w' => e = .returned (.bool r) ∧ Below w.heap.size w w' := by
  obtain rfl := Option.some.inj h
  have G1 := Aside0.mk (show octet_Get.f 10 (([1, 2, 3] : List Int).take (2 : Int).toNat) = some 258 by decide +kernel)
  have G2 := Aside0.mk (show octet_Get.f 10 ([1, 2] : List Int) = some 258 by decide +kernel)
  have P1 := Aside0.mk (show octet_Put.f 10 258 2 = some [1, 2] by decide +kernel)
  have S1 := Aside0.mk (show antiphonref1_Same.f 10 [1, 2] [1, 2] = some true by decide +kernel)
  have HB0 := Aside0.mk (Below.refl w.heap.size w)
  have HLIT : Aside0 (∀ W : World, Kd.C (Kd.int .u8) (W.alloc (.cells #[.int .u8 1, .int .u8 2] 5)) (some ⟨W.heap.size, 0, none⟩) ([1, 2] : List Int).length [1, 2]) := ⟨fun W => lit_C (blk_new W _) rfl (by decide)⟩
  have HBEL : Aside0 (∀ (W : World) (o : Obj), Below W.heap.size W (W.alloc o)) := ⟨fun W o => below_alloc (Below.refl _ _) _⟩
  go_enter Try.func10, Try.ntmps10
  go_wp2_with fail
  refine (octet_New.calls _ 3 [1, 2, 3] _ (lit_C (blk_new w _) rfl (by decide)) (by decide) (by decide)).mono ?_
  rintro e w2 ⟨g, w1, rfl, hB, hB1, hI⟩
  have HB1 := Aside0.mk hB1
  have HBW := Aside0.mk (below_step (below_alloc HB0.out _) hB)
  have HI := Aside0.mk hI
  clear hB hB1 hI
  go_wp2_with fail
  refine (octet_Reader_Num.yes 10 w1 _ g [1, 2, 3] 2 258 HI.out HB1.out (by decide) (by decide) (by decide) (by decide) G1.out).mono ?_
  rintro e w3 ⟨rfl, hI3, hg3⟩
  have HI3 := Aside0.mk (show IsRd w1 w3 g [3] false from hI3)
  have HB3 := Aside0.mk (show Below w.heap.size w w3 from by
    have h1 := below_step HBW.out HB1.out
    exact h1.grown hg3 h1.size (fun k hk => by cases hk; exact Nat.le_trans HBW.out.size (by obtain ⟨_, _, _, hge, _⟩ := HI.out; exact hge)))
  clear hI3 hg3
  go_wp2_with (first
    | (go_at_call 20; refine (octet_Reader_Left.rd w1 _ g [3] false (HI3.out.drewN _)).mono ?_; rintro e w3' ⟨rfl, rfl⟩)
    | (go_at_call 20; refine (octet_Reader_Left.rd w1 _ g [3] false HI3.out).mono ?_; rintro e w3' ⟨rfl, rfl⟩)
    | (go_at_call 11; refine (octet_Put.calls 10 258 2 [1, 2] _ P1.out).mono ?_; rintro e w4 ⟨v4, rfl, hR4, hB4⟩; obtain ⟨A4, c4, rfl, hc4, hC4⟩ := Kd.R_reads hR4; have HC4 := Aside0.mk hC4; have Hc4 := Aside0.mk hc4; have HB4 := Aside0.mk hB4; clear hR4 hB4 hc4 hC4)
    | (go_at_call 12; refine (antiphonref1_Same.calls 10 A4 c4 [1, 2] _ 2 [1, 2] true _ (Kd.C_below HC4.out (HBEL.out _ _)) Hc4.out (HLIT.out _) (by decide) S1.out).mono ?_; rintro e w5 ⟨rfl, hd5⟩; have HD5 := Aside0.mk (Drawn0.below hd5); clear hd5)
    | (go_at_call 14; refine (octet_Get.calls 10 _ 2 [1, 2] 258 _ (HLIT.out _) (by decide) G2.out).mono ?_; rintro e w6 ⟨rfl, hd6⟩; have HD6 := Aside0.mk (Drawn0.below hd6); clear hd6)
    | fail)
  go_ret
  refine ⟨rfl, ?_⟩
  exact below_step (below_alloc (below_step (below_alloc (below_step (by first | exact HB3.out | exact pw_below_drewN HB3.out _) HB4.out) _) HD5.out) _) HD6.out

end Go.Proofs.Ytngahjgbeekldaa.P
