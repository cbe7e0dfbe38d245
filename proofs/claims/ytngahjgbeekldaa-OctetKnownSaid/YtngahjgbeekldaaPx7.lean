-- Laid by a program of this session (wip/print2).
import Derived.Test.YtngahjgbeekldaaPx0
import Derived.Test.YtngahjgbeekldaaPx11
import Derived.Test.YtngahjgbeekldaaPx12
import Derived.Test.YtngahjgbeekldaaPx15
import Derived.Test.YtngahjgbeekldaaPx17
import Derived.Test.YtngahjgbeekldaaPx18
import Derived.Test.YtngahjgbeekldaaPx19
import Derived.Test.YtngahjgbeekldaaPx20
import Derived.Test.YtngahjgbeekldaaPx21
namespace Go.Proofs.Ytngahjgbeekldaa.P
open Go.RowKit Go.Proofs.YtngahjgbeekldaaW.PrintWords Go.Proofs.YtngahjgbeekldaaW.PrintLast Go.Proofs.YtngahjgbeekldaaW.PrintMore
attribute [local go_sem] max2_int min2_int max_two min_two max_three min_three max_four min_four   -- for this text's walks alone
set_option linter.unusedVariables false
set_option linter.unusedSimpArgs false

/-! ### antiphonlaw1_OctetKnown: function 6 -/
/-- Chapter 1's examples: true. -/
def antiphonlaw1_OctetKnown.f : Option Bool := some true
set_option maxHeartbeats 4000000 in
set_option maxRecDepth 100000 in
theorem antiphonlaw1_OctetKnown.calls (r : Bool) (w : World) (h : antiphonlaw1_OctetKnown.f = some r) :
    Calls Try.prog 6 #[] w fun e w' => e = .returned (.bool r) ∧ Below w.heap.size w w' := by
  obtain rfl := Option.some.inj h
  have A1 := Aside0.mk (show antiphonlaw1_awake.f = some true from rfl)
  have G1 := Aside0.mk (show octet_Get.f 10 (([1, 2, 3] : List Int).take (2 : Int).toNat) = some 258 by decide +kernel)
  have G2 := Aside0.mk (show octet_Get.f 10 ([] : List Int) = some 0 by decide +kernel)
  have P1 := Aside0.mk (show octet_Put.f 10 256 1 = some [] by decide +kernel)
  have HN : Aside0 (∀ W : World, Kd.C (Kd.int .u8) W none ([] : List Int).length []) := ⟨fun W => Kd.C_nil _ _⟩
  have HBEL : Aside0 (∀ (W : World) (o : Obj), Below W.heap.size W (W.alloc o)) := ⟨fun W o => below_alloc (Below.refl _ _) _⟩
  clear h
  go_enter Try.func6, Try.ntmps6
  go_wp2_with fail
  refine (antiphonlaw1_awake.calls true _ A1.out).mono ?_
  rintro e w0 ⟨rfl, hB0⟩
  have HB0 := Aside0.mk (below_step (Below.refl w.heap.size w) (by first | exact hB0 | exact hB0))
  clear hB0
  go_wp2_with fail
  refine (octet_New.calls _ 3 [1, 2, 3] _ (lit_C (blk_new w0 _) rfl (by decide)) (by decide) (by decide)).mono ?_
  rintro e w2 ⟨g, w1, rfl, hB, hB1, hI⟩
  have HB1 := Aside0.mk hB1
  have HBW := Aside0.mk (below_step (below_alloc HB0.out _) hB)
  have HI := Aside0.mk hI
  have HGE := Aside0.mk (show w1.heap.size ≤ g by obtain ⟨_, _, _, hge, _⟩ := hI; exact hge)
  clear hB hB1 hI
  go_wp2_with fail
  refine (octet_Reader_Num.yes 10 w1 _ g [1, 2, 3] 2 258 HI.out HB1.out (by decide) (by decide) (by decide) (by decide) G1.out).mono ?_
  rintro e w3 ⟨rfl, hI3, hg3⟩
  have HI3 := Aside0.mk (show IsRd w1 w3 g [3] false from hI3)
  have HB3 := Aside0.mk (show Below w.heap.size w w3 from by
    have h1 := below_step HBW.out HB1.out
    exact h1.grown hg3 h1.size (fun k hk => by cases hk; exact Nat.le_trans HBW.out.size HGE.out))
  clear hI3 hg3
  go_wp2_with fail
  refine (octet_Reader_Raw.no w1 _ g [3] false 2 HI3.out (Or.inr (Or.inr (by decide)))).mono ?_
  rintro e w4 ⟨rfl, hI4, hg4⟩
  have HI4 := Aside0.mk hI4
  have HB4 := Aside0.mk (show Below w.heap.size w w4 from HB3.out.grown hg4 HB3.out.size (fun k hk => by cases hk; exact Nat.le_trans HBW.out.size HGE.out))
  clear hI4 hg4
  go_wp2_with (first
    | (go_at_call 19; refine (octet_Reader_Fail.rd w1 _ g [3] true (HI4.out.drewN _)).mono ?_; rintro e w4' ⟨rfl, rfl⟩)
    | (go_at_call 20; refine (octet_Reader_Left.rd w1 _ g [3] true (HI4.out.drewN _)).mono ?_; rintro e w4' ⟨rfl, rfl⟩)
    | (go_at_call 19; refine (octet_Reader_Fail.rd w1 _ g [3] true HI4.out).mono ?_; rintro e w4' ⟨rfl, rfl⟩)
    | (go_at_call 20; refine (octet_Reader_Left.rd w1 _ g [3] true HI4.out).mono ?_; rintro e w4' ⟨rfl, rfl⟩)
    | (go_at_call 11; refine (octet_Put.calls 10 256 1 [] _ P1.out).mono ?_; rintro e w5 ⟨v5, rfl, hR5, hB5⟩; obtain ⟨A5, c5, rfl, hc5, hC5⟩ := Kd.R_reads hR5; have HB5 := Aside0.mk hB5; clear hR5 hB5 hc5 hC5)
    | (go_at_call 14; refine (octet_Get.calls 10 none 0 [] 0 _ (HN.out _) (by decide) G2.out).mono ?_; rintro e w6 ⟨rfl, hd6⟩; have HD6 := Aside0.mk (Drawn0.below hd6); clear hd6)
    | fail)
  go_ret
  refine ⟨rfl, ?_⟩
  exact below_step (below_step (by first | exact HB4.out | exact pw_below_drewN HB4.out _) HB5.out) HD6.out

end Go.Proofs.Ytngahjgbeekldaa.P
