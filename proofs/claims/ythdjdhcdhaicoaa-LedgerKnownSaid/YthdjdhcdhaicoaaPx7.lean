-- Laid by a program of this session (wip/print2).
import Derived.Test.YthdjdhcdhaicoaaPx0
import Derived.Test.YthdjdhcdhaicoaaPx9
import Derived.Test.YthdjdhcdhaicoaaPx11
import Derived.Test.YthdjdhcdhaicoaaPx13
import Derived.Test.YthdjdhcdhaicoaaPx17
import Derived.Test.YthdjdhcdhaicoaaPx22
namespace Go.Proofs.Ythdjdhcdhaicoaa.P
open Go.RowKit Go.Proofs.YthdjdhcdhaicoaaW.PrintWords Go.Proofs.YthdjdhcdhaicoaaW.PrintLast Go.Proofs.YthdjdhcdhaicoaaW.PrintMore
attribute [local go_sem] max2_int min2_int max_two min_two max_three min_three max_four min_four   -- for this text's walks alone
set_option linter.unusedVariables false
set_option linter.unusedSimpArgs false

/-! ### antiphonlaw26_LedgerKnown: function 6 -/
theorem C_one {α : Type} {d : Kd α} {W : World} {b : Nat} {cs : List Value} {t : TypeId} (x : α) (hb : W.heap[b]? = some (.cells cs.toArray t (0, 0))) (hK : d.K W x cs) : d.C W (some ⟨b, 0, none⟩) 1 [x] := by
  refine ⟨rfl, by decide, fun _ => ⟨⟨b, 0, none⟩, rfl, fun j p hj => ?_⟩⟩
  have hj1 : j < 1 := (List.getElem?_eq_some_iff.1 hj).1
  obtain rfl : j = 0 := by omega
  obtain rfl : x = p := by simpa using hj
  refine ⟨cs, d.K_len hK, hK, fun q u hq => ?_⟩
  rw [Nat.zero_mul, Nat.zero_add, add_at, Nat.zero_add]
  exact (blk_cell hb q).trans (by simpa using hq)
theorem lit_runs {W : World} {b1 b2 b3 : Nat} (h1 : W.heap[b1]? = some (.cells #[.int .u8 1] 5 (0, 0))) (h2 : W.heap[b2]? = some (.cells #[.slice (some ⟨b1, 0, none⟩) 1 1] 42 (0, 0))) (h3 : W.heap[b3]? = some (.cells #[.int .i64 0, .slice (some ⟨b2, 0, none⟩) 1 1] 47 (0, 0))) : Kd.C k47 W (some ⟨b3, 0, none⟩) 1 [⟨0, [[1]]⟩] :=
  C_one (cs := [.int .i64 0, .slice (some ⟨b2, 0, none⟩) 1 1]) (⟨0, [[1]]⟩ : S47) h3 (k47_mk W (⟨0, [[1]]⟩ : S47) (by decide) (C_one (d := Kd.slice 5 (Kd.int .u8)) (cs := [.slice (some ⟨b1, 0, none⟩) 1 1]) [1] h2 ⟨some ⟨b1, 0, none⟩, 1, rfl, by decide, C_one (d := Kd.int .u8) (cs := [.int .u8 1]) 1 h1 rfl⟩))
theorem blk_new2_ (w : World) (a b : Obj) : ((w.alloc a).alloc b).heap[w.heap.size + 1]? = some b := by
  have h : (w.alloc a).heap.size = w.heap.size + 1 := Array.size_push _
  rw [← h]; exact blk_new (w.alloc a) b
theorem blk_new3_ (w : World) (a b c : Obj) : (((w.alloc a).alloc b).alloc c).heap[w.heap.size + 1 + 1]? = some c := by
  have h : ((w.alloc a).alloc b).heap.size = w.heap.size + 1 + 1 := by rw [show ((w.alloc a).alloc b).heap = (w.heap.push a).push b from rfl]; simp
  rw [← h]; exact blk_new ((w.alloc a).alloc b) c
/-- Chapter 26's example, and rows of nothing: true. -/
def antiphonlaw26_LedgerKnown.f : Option Bool := some true
set_option maxHeartbeats 8000000 in
set_option maxRecDepth 100000 in
theorem antiphonlaw26_LedgerKnown.calls (r : Bool) (w : World) (h : antiphonlaw26_LedgerKnown.f = some r) :
    Calls Try.prog 6 #[] w fun e w' => e = .returned (.bool r) ∧ Below w.heap.size w w' := by
  obtain rfl := Option.some.inj h
  clear h
  have A1 := Aside0.mk (show antiphonlaw26_awake.f 60 = some true by decide +kernel)
  have P1 := Aside0.mk (show ledger_Part.f 60 [] [] = some 0 by decide +kernel)
  have R1 := Aside0.mk (show ledger_Runs.f [] 4 8 0 0 0 0 0 0 = some [] by rfl)
  have W1 := Aside0.mk (show ledger_Within.f 60 [] [] = some true by decide +kernel)
  have C1 := Aside0.mk (show ledger_Count.f 60 [] 1 4 = some 0 by decide +kernel)
  have W2 := Aside0.mk (show ledger_Within.f 60 [] [⟨0, [[1]]⟩] = some false by decide +kernel)
  have K12 := Aside0.mk (show ∀ W : World, Calls Try.prog 12 #[.slice none 0 0, .slice none 0 0] W fun e w' => e = .returned (.bool true) ∧ Below W.heap.size W w' from fun W => ledger_Within.calls 60 none 0 [] none 0 [] true W (Kd.C_nil _ _) (Nat.le_refl _) (Kd.C_nil _ _) (Nat.le_refl _) W1.out)
  have K12b := Aside0.mk (show ∀ (W : World) (b1 b2 b3 : Nat), W.heap[b1]? = some (.cells #[.int .u8 1] 5 (0, 0)) → W.heap[b2]? = some (.cells #[.slice (some ⟨b1, 0, none⟩) 1 1] 42 (0, 0)) → W.heap[b3]? = some (.cells #[.int .i64 0, .slice (some ⟨b2, 0, none⟩) 1 1] 47 (0, 0)) → Calls Try.prog 12 #[.slice none 0 0, .slice (some ⟨b3, 0, none⟩) 1 1] W fun e w' => e = .returned (.bool false) ∧ Below W.heap.size W w' from fun W b1 b2 b3 h1 h2 h3 => ledger_Within.calls 60 none 0 [] (some ⟨b3, 0, none⟩) 1 [⟨0, [[1]]⟩] false W (Kd.C_nil _ _) (Nat.le_refl _) (lit_runs h1 h2 h3) (Nat.le_refl _) W2.out)
  have HB := Aside0.mk (Below.refl w.heap.size w)
  go_enter Try.func6, Try.ntmps6
  go_wp2_with fail
  refine (antiphonlaw26_awake.calls 60 true _ A1.out).mono ?_
  rintro e w1 ⟨rfl, hb⟩
  have HB1 := Aside0.mk (below_step HB.out hb)
  clear hb
  go_wp2_with fail
  refine (ledger_Part.calls 60 none 0 [] none 0 [] 0 _ (Kd.C_nil _ _) (Nat.le_refl _) (Kd.C_nil _ _) (Nat.le_refl _) P1.out).mono ?_
  rintro e w2 ⟨rfl, hd⟩
  have HB2 := Aside0.mk (below_step (by repeat (first | (with_reducible first | exact HB1.out | apply below_alloc | apply pw_below_drewN | apply below_drew1) | exact HB1.out)) (Drawn0.below hd))
  clear hd
  go_wp2_with fail
  refine (ledger_Runs.calls none 0 [] 4 8 0 0 0 0 0 0 [] _ (Kd.C_nil _ _) (Nat.le_refl _) R1.out).mono ?_
  rintro e w3 ⟨v3, rfl, hR, hb⟩
  obtain ⟨A3, c3, rfl⟩ : ∃ A c, v3 = .slice A 0 c := Kd.R_slice hR
  have HB3 := Aside0.mk (below_step (by repeat (first | (with_reducible first | exact HB2.out | apply below_alloc | apply pw_below_drewN | apply below_drew1) | exact HB2.out)) hb)
  clear hR hb
  go_wp2_with fail
  refine (K12.out _).mono ?_
  rintro e w4 ⟨rfl, hb⟩
  have HB4 := Aside0.mk (below_step (by repeat (first | (with_reducible first | exact HB3.out | apply below_alloc | apply pw_below_drewN | apply below_drew1) | exact HB3.out)) hb)
  clear hb
  go_wp2_with fail
  refine (ledger_Count.calls 60 none 0 [] 1 4 0 _ (Kd.C_nil _ _) (Nat.le_refl _) C1.out).mono ?_
  rintro e w5 ⟨rfl, hb⟩
  have HB5 := Aside0.mk (below_step (by repeat (first | (with_reducible first | exact HB4.out | apply below_alloc | apply pw_below_drewN | apply below_drew1) | exact HB4.out)) hb)
  clear hb
  go_wp2_with fail
  have hb1 : (((w5.alloc (.cells #[.int .u8 1] 5 (0, 0))).alloc (.cells #[.slice (some ⟨w5.heap.size, 0, none⟩) 1 1] 42 (0, 0))).alloc (.cells #[.int .i64 0, .slice (some ⟨w5.heap.size + 1, 0, none⟩) 1 1] 47 (0, 0))).heap[w5.heap.size]? = some (.cells #[.int .u8 1] 5 (0, 0)) := blk_alloc (blk_alloc (blk_new _ _) _) _
  have hb2 : (((w5.alloc (.cells #[.int .u8 1] 5 (0, 0))).alloc (.cells #[.slice (some ⟨w5.heap.size, 0, none⟩) 1 1] 42 (0, 0))).alloc (.cells #[.int .i64 0, .slice (some ⟨w5.heap.size + 1, 0, none⟩) 1 1] 47 (0, 0))).heap[w5.heap.size + 1]? = some (.cells #[.slice (some ⟨w5.heap.size, 0, none⟩) 1 1] 42 (0, 0)) := blk_alloc (blk_new2_ _ _ _) _
  have hb3 : (((w5.alloc (.cells #[.int .u8 1] 5 (0, 0))).alloc (.cells #[.slice (some ⟨w5.heap.size, 0, none⟩) 1 1] 42 (0, 0))).alloc (.cells #[.int .i64 0, .slice (some ⟨w5.heap.size + 1, 0, none⟩) 1 1] 47 (0, 0))).heap[w5.heap.size + 1 + 1]? = some (.cells #[.int .i64 0, .slice (some ⟨w5.heap.size + 1, 0, none⟩) 1 1] 47 (0, 0)) := blk_new3_ _ _ _ _
  refine (K12b.out _ _ _ _ hb1 hb2 hb3).mono ?_
  rintro e w6 ⟨rfl, hb⟩
  have HB6 := Aside0.mk (below_step (below_alloc (below_alloc (below_alloc (by repeat (first | (with_reducible first | exact HB5.out | apply below_alloc | apply pw_below_drewN | apply below_drew1) | exact HB5.out)) _) _) _) hb)
  clear hb
  go_wp2_with fail
  go_ret
  exact ⟨rfl, (by repeat (first | (with_reducible first | exact HB6.out | apply below_alloc | apply pw_below_drewN | apply below_drew1) | exact HB6.out))⟩

end Go.Proofs.Ythdjdhcdhaicoaa.P
