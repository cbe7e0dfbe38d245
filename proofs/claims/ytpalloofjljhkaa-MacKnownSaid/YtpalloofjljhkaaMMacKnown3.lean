/- Chapter 3's examples, and what is refused. -/
-- Put together by wip/print2/mergelaw.py: printed words (what this claim does not use is left out), printed functions, texts of this session.
import Derived.Test.YtpalloofjljhkaaMMacKnown2
/-! Px17 -/
namespace Go.Proofs.Ytpalloofjljhkaa.P
open Go.RowKit Go.Proofs.Ytpalloofjljhkaa.Lib Go.Proofs.YtpalloofjljhkaaW.PrintWords Go.Proofs.YtpalloofjljhkaaW.PrintLast Go.Proofs.YtpalloofjljhkaaW.PrintMore
set_option linter.unusedVariables false
set_option linter.unusedSimpArgs false
def antiphonlaw3_MacKnown.f : Option Bool := some true
theorem exec_make {a : Act} {o : Oper} (n : Nat) (ho : o.op = Op.makeSlice 22 (.const (.int .i64 (n : Int))) (.const (.int .i64 (n : Int)))) (hn : n ≤ 281474976710656) (w : World) :
    (execOp a.eval o).run Try.prog w = .ok (.value (.slice (some ⟨w.heap.size, 0, none⟩) n n)) (w.alloc (.cells (madeCells #[.int .u8 0] n) 5)) := by
  have hrun := run_make_row' (P := Try.prog) 22 5 (.int .u8 0) 1 Try.underlying22 info5 rfl .i64 .i64 n (by omega) (by omega) w
  have hf : ∀ v, a.eval (.const v) = v := fun _ => rfl
  simp [execOp, ho, hf, hrun, Result.andThen]
theorem make_ {ops : Array Oper} {Q : Exit → Act → World → Prop} {oi : Oper} {N : Option Tmp} {a : Act} {w : World} {K : Act → World → Prop} (n : Nat) (hw : Region.wanted oi (yielded ops a.tmps) = true) (hN : oi.dst = N) (ho : oi.op = Op.makeSlice 22 (.const (.int .i64 (n : Int))) (.const (.int .i64 (n : Int)))) (hn : n ≤ 281474976710656)
    (h : K (a.put N (.slice (some ⟨w.heap.size, 0, none⟩) n n)) (w.alloc (.cells (madeCells #[.int .u8 0] n) 5))) : if Region.wanted oi (yielded ops a.tmps) = true then Oper.wp Try.prog oi a w K Q else K (a.put N undef) w :=
  value_ hw hN (exec_make n ho hn w) h
theorem z13_one : (#[.int .u8 0, .int .u8 0, .int .u8 0, .int .u8 0, .int .u8 0, .int .u8 0, .int .u8 0, .int .u8 0, .int .u8 0, .int .u8 0, .int .u8 0, .int .u8 0, .slice none 0 0] : Array Value).all (·.oneCell') = true := by decide +kernel
theorem zcells (n : Nat) : madeCells #[.int .u8 0] n = ((List.replicate n (0 : Int)).map (Value.int .u8)).toArray := by
  unfold madeCells
  apply Array.ext
  · simp
  · intro i h1 h2
    simp [Nat.mod_one]
theorem z_C {W : World} {g n : Nat} (h : W.heap[g]? = some (.cells (madeCells #[.int .u8 0] n) 5 (0, 0))) (hn : n ≤ 9223372036854775807) : Kd.C (Kd.int .u8) W (some ⟨g, 0, none⟩) n (List.replicate n 0) := by
  have h1 := lit_C (xs := List.replicate n 0) h (zcells n) (by rw [List.length_replicate]; exact hn)
  rw [List.length_replicate] at h1
  exact h1
theorem z_byte (n : Nat) : byteRow (List.replicate n 0) := by
  intro c hc
  rw [List.eq_of_mem_replicate hc]
  omega
set_option maxHeartbeats 8000000 in
set_option maxRecDepth 100000 in
theorem antiphonlaw3_MacKnown.calls (r : Bool) (w : World) (h : antiphonlaw3_MacKnown.f = some r) :
    Calls Try.prog 16 #[] w fun e w' => e = .returned (.bool r) ∧ Below w.heap.size w w' := by
  obtain rfl := Option.some.inj h
  clear h
  have HB := Aside0.mk (Below.refl w.heap.size w)
  have hu45 := Try.underlying45
  have hu43 := Try.underlying43
  have SA := Aside0.mk (show mac_All.f = some (255, 255, 255, 255, 255, 255) from rfl)
  have SO := Aside0.mk (show openB (List.replicate 64 0) = false by decide +kernel)
  have S3 := Aside0.mk (st_f 3 (by decide) (by decide))
  have SG3 := Aside0.mk (show mac_Group.f 2 0 0 0 0 3 = some false from rfl)
  have SGA := Aside0.mk (show mac_Group.f 255 255 255 255 255 255 = some true from rfl)
  have SN3 := Aside0.mk (show mac_Number.f 2 0 0 0 0 3 = some 3 by decide +kernel)
  have SNA := Aside0.mk (show mac_Number.f 255 255 255 255 255 255 = some (-1) by decide +kernel)
  go_enter Try.func16, Try.ntmps16
  go_wp2_with fail
  refine (awake3_calls _).mono ?_
  rintro e wa ⟨rfl, hB⟩
  have hS := (show Below w.heap.size w wa from below_step (by repeat (first | with_reducible exact Below.refl _ _ | with_reducible apply below_drew1 | with_reducible apply pw_below_drewN | with_reducible apply below_alloc)) hB)
  replace HB := Aside0.mk (below_step HB.out hS)
  clear hS hB
  go_wp2_with fail
  refine (crc_Make.calls _).mono ?_
  rintro e w1 ⟨rfl, hB⟩
  have hS := (show Below wa.heap.size wa w1 from below_step (by repeat (first | with_reducible exact Below.refl _ _ | with_reducible apply below_drew1 | with_reducible apply pw_below_drewN | with_reducible apply below_alloc)) hB)
  replace HB := Aside0.mk (below_step HB.out hS)
  clear hS hB
  go_wp2_with (first
    | (refine wpList_store_tab rfl (.tmp 1) (.tmp 12) rfl w1.heap.size rfl true rfl Try.zeroCells27 (blk_new w1 _) zsz27 ?_; intro w2 hI hG; have hS := (show Below w1.heap.size w1 w2 from (below_alloc (Below.refl _ _) _).grown hG (below_alloc (Below.refl _ _) _).size (fun k hk => by cases hk; exact Nat.le_refl _)); have HG := Aside0.mk (HB.out.size); replace HB := Aside0.mk (below_step HB.out hS); generalize w1.heap.size = g at hI HG ⊢; have HI := Aside0.mk hI; clear hI hG hS))
  refine start_ (n := 9) (S := fun w' => IsTab true w' g) (ds := []) #[false, false, false, false, false, false, false, false, false] (by kernel_rfl) rfl rfl ((HI.out.below (by repeat (first | with_reducible exact Below.refl _ _ | with_reducible apply below_drew1 | with_reducible apply pw_below_drewN | with_reducible apply below_alloc)))) (fun hHeld => ?_)
  refine take_ (i := 0) (N := some 14) (v := tabV true) #[true, false, false, false, false, false, false, false, false] rfl rfl (by kernel_rfl) (fun _ _ _ h => h) ?_ hHeld rfl ?_
  · exact yields_tab (by rfl) _ rfl _ rfl true (by intro w' s0; exact s0)
  refine norm_ (a' := ?_) ?_ ?_
  rotate_left
  · show Act.put _ (some 14) _ = _
    simp only [Act.put, List.setIfInBounds_toArray, List.set_cons_zero, List.set_cons_succ, i64_w, i32_w]
    rfl
  refine one_ (i := 1) (N := some 15) #[true, true, false, false, false, false, false, false, false] rfl rfl (by kernel_rfl) (by decide) (fun K hK => ?_)
  refine goes_ Try.func42 (by kernel_rfl) rfl #[] (by rfl) rfl rfl (by simp only [List.map_toArray, List.map_cons, List.map_nil]) ?_
  refine (mac_All.calls _ _ _ _ _ _ _ SA.out).mono ?_
  rintro e w3 ⟨rfl, hB⟩
  refine ⟨_, rfl, ?_⟩
  have hS := (show Below w2.heap.size w2 w3 from below_step (by repeat (first | with_reducible exact Below.refl _ _ | with_reducible apply below_drew1 | with_reducible apply pw_below_drewN | with_reducible apply below_alloc)) hB)
  replace HI := Aside0.mk (HI.out.below hS)
  replace HB := Aside0.mk (below_step HB.out hS)
  clear hS hB
  refine hK.out _ _ ((HI.out.below (by repeat (first | with_reducible exact Below.refl _ _ | with_reducible apply below_drew1 | with_reducible apply pw_below_drewN | with_reducible apply below_alloc)))) (fun hHeld => ?_)
  clear hK K
  refine norm_ (a' := ?_) ?_ ?_
  rotate_left
  · show Act.put _ (some 15) _ = _
    simp only [Act.put, List.setIfInBounds_toArray, List.set_cons_zero, List.set_cons_succ, i64_w, i32_w]
    rfl
  refine pure_ (i := 2) (N := some 16) (v := ?_) (a' := ?_) #[true, true, true, false, false, false, false, false, false] rfl rfl (by kernel_rfl) (fun _ _ _ h => h) (Or.inl ⟨by rfl, ?_⟩) ?_ ?_
  rotate_left
  · intro w'
    go_simp
    with_reducible rfl
  rotate_left
  · simp only [Act.put, List.setIfInBounds_toArray, List.set_cons_zero, List.set_cons_succ, i64_w, i32_w]
    rfl
  refine one_ (i := 3) (N := some 17) #[true, true, true, true, false, false, false, false, false] rfl rfl (by kernel_rfl) (by decide) (fun K hK => ?_)
  refine goes_ Try.func32 (by kernel_rfl) rfl #[tabV true, .agg #[.int .u8 0, .int .u8 0, .int .u8 0, .int .u8 0, .int .u8 0, .int .u8 0, .int .u8 255, .int .u8 255, .int .u8 255, .int .u8 255, .int .u8 255, .int .u8 255, .slice none 0 0]] (by rfl) rfl rfl (by simp only [List.map_toArray, List.map_cons, List.map_nil]; rfl) ?_
  refine (mac_Encode.group 0 0 0 0 0 0 255 255 255 255 255 255 none 0 [] _ ⟨rfl, by decide, fun h => absurd h (by decide)⟩ (by decide) (by decide)).mono ?_
  rintro e w4 ⟨v4, rfl, hR, hB⟩
  refine ⟨_, rfl, ?_⟩
  have hS := (show Below w3.heap.size w3 w4 from below_step (by repeat (first | with_reducible exact Below.refl _ _ | with_reducible apply below_drew1 | with_reducible apply pw_below_drewN | with_reducible apply below_alloc)) hB)
  replace HI := Aside0.mk (HI.out.below hS)
  replace HB := Aside0.mk (below_step HB.out hS)
  clear hR
  clear hS hB
  refine hK.out _ _ ((HI.out.below (by repeat (first | with_reducible exact Below.refl _ _ | with_reducible apply below_drew1 | with_reducible apply pw_below_drewN | with_reducible apply below_alloc)))) (fun hHeld => ?_)
  clear hK K
  refine norm_ (a' := ?_) ?_ ?_
  rotate_left
  · show Act.put _ (some 17) _ = _
    simp only [Act.put, List.setIfInBounds_toArray, List.set_cons_zero, List.set_cons_succ, i64_w, i32_w]
    rfl
  refine pure_ (i := 4) (N := some 13) (v := ?_) (a' := ?_) #[true, true, true, true, true, false, false, false, false] rfl rfl (by kernel_rfl) (fun _ _ _ h => h) (Or.inl ⟨by rfl, ?_⟩) ?_ ?_
  rotate_left
  · intro w'
    go_simp
    with_reducible rfl
  rotate_left
  · simp only [Act.put, List.setIfInBounds_toArray, List.set_cons_zero, List.set_cons_succ, i64_w, i32_w]
    rfl
  refine pure_ (i := 5) (N := some 18) (v := ?_) (a' := ?_) #[true, true, true, true, true, true, false, false, false] rfl rfl (by kernel_rfl) (fun _ _ _ h => h) (Or.inl ⟨by rfl, ?_⟩) ?_ ?_
  rotate_left
  · intro w'
    go_simp
    with_reducible rfl
  rotate_left
  · simp only [Act.put, List.setIfInBounds_toArray, List.set_cons_zero, List.set_cons_succ, i64_w, i32_w]
    rfl
  refine pure_ (i := 6) (N := some 19) (v := ?_) (a' := ?_) #[true, true, true, true, true, true, true, false, false] rfl rfl (by kernel_rfl) (fun _ _ _ h => h) (Or.inl ⟨by rfl, ?_⟩) ?_ ?_
  rotate_left
  · intro w'
    go_simp
    with_reducible rfl
  rotate_left
  · simp only [Act.put, List.setIfInBounds_toArray, List.set_cons_zero, List.set_cons_succ, i64_w, i32_w]
    rfl
  refine pure_ (i := 7) (N := some 2) (v := ?_) (a' := ?_) #[true, true, true, true, true, true, true, true, false] rfl rfl (by kernel_rfl) (fun _ _ _ h => h) (Or.inl ⟨by rfl, ?_⟩) ?_ ?_
  rotate_left
  · intro w'
    go_simp
    with_reducible rfl
  rotate_left
  · simp only [Act.put, List.setIfInBounds_toArray, List.set_cons_zero, List.set_cons_succ, i64_w, i32_w]
    rfl
  refine pure_ (i := 8) (N := some 3) (v := ?_) (a' := ?_) #[true, true, true, true, true, true, true, true, true] rfl rfl (by kernel_rfl) (fun _ _ _ h => h) (Or.inl ⟨by rfl, ?_⟩) ?_ ?_
  rotate_left
  · intro w'
    go_simp
    with_reducible rfl
  rotate_left
  · simp only [Act.put, List.setIfInBounds_toArray, List.set_cons_zero, List.set_cons_succ, i64_w, i32_w]
    rfl
  refine done_ (by kernel_rfl) ?_
  go_wp2_with fail
  refine start_ (n := 9) (S := fun w' => IsTab true w' g) (ds := []) #[false, false, false, false, false, false, false, false, false] (by kernel_rfl) rfl rfl ((HI.out.below (by repeat (first | with_reducible exact Below.refl _ _ | with_reducible apply below_drew1 | with_reducible apply pw_below_drewN | with_reducible apply below_alloc)))) (fun hHeld => ?_)
  refine take_ (i := 0) (N := some 21) (v := tabV true) #[true, false, false, false, false, false, false, false, false] rfl rfl (by kernel_rfl) (fun _ _ _ h => h) ?_ hHeld rfl ?_
  · exact yields_tab (by rfl) _ rfl _ rfl true (by intro w' s0; exact s0)
  refine norm_ (a' := ?_) ?_ ?_
  rotate_left
  · show Act.put _ (some 21) _ = _
    simp only [Act.put, List.setIfInBounds_toArray, List.set_cons_zero, List.set_cons_succ, i64_w, i32_w]
    rfl
  refine one_ (i := 1) (N := some 22) #[true, true, false, false, false, false, false, false, false] rfl rfl (by kernel_rfl) (by decide) (fun K hK => ?_)
  refine make_ 1501 (by rfl) rfl rfl (by decide) ?_
  refine hK.out _ _ ((HI.out.below (by repeat (first | with_reducible exact Below.refl _ _ | with_reducible apply below_drew1 | with_reducible apply pw_below_drewN | with_reducible apply below_alloc)))) (fun hHeld => ?_)
  clear hK K
  refine norm_ (a' := ?_) ?_ ?_
  rotate_left
  · show Act.put _ (some 22) _ = _
    simp only [Act.put, List.setIfInBounds_toArray, List.set_cons_zero, List.set_cons_succ, i64_w, i32_w]
    rfl
  refine pure_ (i := 2) (N := some 23) (v := ?_) (a' := ?_) #[true, true, true, false, false, false, false, false, false] rfl rfl (by kernel_rfl) (fun _ _ _ h => h) (Or.inl ⟨by rfl, ?_⟩) ?_ ?_
  rotate_left
  · intro w'
    go_simp
    with_reducible rfl
  rotate_left
  · simp only [Act.put, List.setIfInBounds_toArray, List.set_cons_zero, List.set_cons_succ, i64_w, i32_w]
    rfl
  refine one_ (i := 3) (N := some 24) #[true, true, true, true, false, false, false, false, false] rfl rfl (by kernel_rfl) (by decide) (fun K hK => ?_)
  refine goes_ Try.func32 (by kernel_rfl) rfl #[tabV true, .agg #[.int .u8 0, .int .u8 0, .int .u8 0, .int .u8 0, .int .u8 0, .int .u8 0, .int .u8 0, .int .u8 0, .int .u8 0, .int .u8 0, .int .u8 0, .int .u8 0, .slice (some ⟨w4.heap.size, 0, none⟩) 1501 1501]] (by rfl) rfl rfl (by simp only [List.map_toArray, List.map_cons, List.map_nil]; rfl) ?_
  refine (mac_Encode.long 0 0 0 0 0 0 0 0 0 0 0 0 (some ⟨w4.heap.size, 0, none⟩) 1501 (List.replicate 1501 0) _ (by rw [List.length_replicate]; exact z_C (W := (w4.drew).alloc _) (blk_new _ _) (by decide)) (by rw [List.length_replicate]; exact Nat.le_refl _) (by decide) (by rw [List.length_replicate]; decide)).mono ?_
  rintro e w5 ⟨v5, rfl, hR, hB⟩
  refine ⟨_, rfl, ?_⟩
  have hS := (show Below w4.heap.size w4 w5 from below_step (by repeat (first | with_reducible exact Below.refl _ _ | with_reducible apply below_drew1 | with_reducible apply pw_below_drewN | with_reducible apply below_alloc)) hB)
  replace HI := Aside0.mk (HI.out.below hS)
  replace HB := Aside0.mk (below_step HB.out hS)
  clear hR
  clear hS hB
  refine hK.out _ _ ((HI.out.below (by repeat (first | with_reducible exact Below.refl _ _ | with_reducible apply below_drew1 | with_reducible apply pw_below_drewN | with_reducible apply below_alloc)))) (fun hHeld => ?_)
  clear hK K
  refine norm_ (a' := ?_) ?_ ?_
  rotate_left
  · show Act.put _ (some 24) _ = _
    simp only [Act.put, List.setIfInBounds_toArray, List.set_cons_zero, List.set_cons_succ, i64_w, i32_w]
    rfl
  refine pure_ (i := 4) (N := some 20) (v := ?_) (a' := ?_) #[true, true, true, true, true, false, false, false, false] rfl rfl (by kernel_rfl) (fun _ _ _ h => h) (Or.inl ⟨by rfl, ?_⟩) ?_ ?_
  rotate_left
  · intro w'
    go_simp
    with_reducible rfl
  rotate_left
  · simp only [Act.put, List.setIfInBounds_toArray, List.set_cons_zero, List.set_cons_succ, i64_w, i32_w]
    rfl
  refine pure_ (i := 5) (N := some 25) (v := ?_) (a' := ?_) #[true, true, true, true, true, true, false, false, false] rfl rfl (by kernel_rfl) (fun _ _ _ h => h) (Or.inl ⟨by rfl, ?_⟩) ?_ ?_
  rotate_left
  · intro w'
    go_simp
    with_reducible rfl
  rotate_left
  · simp only [Act.put, List.setIfInBounds_toArray, List.set_cons_zero, List.set_cons_succ, i64_w, i32_w]
    rfl
  refine pure_ (i := 6) (N := some 26) (v := ?_) (a' := ?_) #[true, true, true, true, true, true, true, false, false] rfl rfl (by kernel_rfl) (fun _ _ _ h => h) (Or.inl ⟨by rfl, ?_⟩) ?_ ?_
  rotate_left
  · intro w'
    go_simp
    with_reducible rfl
  rotate_left
  · simp only [Act.put, List.setIfInBounds_toArray, List.set_cons_zero, List.set_cons_succ, i64_w, i32_w]
    rfl
  refine pure_ (i := 7) (N := some 4) (v := ?_) (a' := ?_) #[true, true, true, true, true, true, true, true, false] rfl rfl (by kernel_rfl) (fun _ _ _ h => h) (Or.inl ⟨by rfl, ?_⟩) ?_ ?_
  rotate_left
  · intro w'
    go_simp
    with_reducible rfl
  rotate_left
  · simp only [Act.put, List.setIfInBounds_toArray, List.set_cons_zero, List.set_cons_succ, i64_w, i32_w]
    rfl
  refine pure_ (i := 8) (N := some 5) (v := ?_) (a' := ?_) #[true, true, true, true, true, true, true, true, true] rfl rfl (by kernel_rfl) (fun _ _ _ h => h) (Or.inl ⟨by rfl, ?_⟩) ?_ ?_
  rotate_left
  · intro w'
    go_simp
    with_reducible rfl
  rotate_left
  · simp only [Act.put, List.setIfInBounds_toArray, List.set_cons_zero, List.set_cons_succ, i64_w, i32_w]
    rfl
  refine done_ (by kernel_rfl) ?_
  go_wp2_with fail
  have HG0 := Aside0.mk (Nat.le_refl w5.heap.size)
  refine start_ (n := 9) (S := fun w' => IsTab true w' g) (ds := []) #[false, false, false, false, false, false, false, false, false] (by kernel_rfl) rfl rfl (HI.out.drew1) (fun hHeld => ?_)
  refine take_ (i := 0) (N := some 28) (v := tabV true) #[true, false, false, false, false, false, false, false, false] rfl rfl (by kernel_rfl) (fun _ _ _ h => h) ?_ hHeld rfl ?_
  · exact yields_tab (by rfl) _ rfl _ rfl true (by intro w' s0; exact s0)
  refine norm_ (a' := ?_) ?_ ?_
  rotate_left
  · show Act.put _ (some 28) _ = _
    simp only [Act.put, List.setIfInBounds_toArray, List.set_cons_zero, List.set_cons_succ, i64_w, i32_w]
    rfl
  refine join_ (σ := Nat × Nat) 2 #[true, true, true, true, true, true, true, false, false] (fun s_ => [(29, .slice (some ⟨s_.1, 0, none⟩) 63 63), (30, .tuple #[.agg #[.int .u8 0, .int .u8 0, .int .u8 0, .int .u8 0, .int .u8 0, .int .u8 0, .int .u8 0, .int .u8 0, .int .u8 0, .int .u8 0, .int .u8 0, .int .u8 0, .slice none 0 0], .int .i64 2]), (6, .pointer (some ⟨s_.2, 0, none⟩)), (27, .tuple #[.agg #[.int .u8 0, .int .u8 0, .int .u8 0, .int .u8 0, .int .u8 0, .int .u8 0, .int .u8 0, .int .u8 0, .int .u8 0, .int .u8 0, .int .u8 0, .int .u8 0, .slice none 0 0], .int .i64 2]), (31, .agg #[.int .u8 0, .int .u8 0, .int .u8 0, .int .u8 0, .int .u8 0, .int .u8 0, .int .u8 0, .int .u8 0, .int .u8 0, .int .u8 0, .int .u8 0, .int .u8 0, .slice none 0 0]), (32, .int .i64 2)]) (fun s_ w' => IsTab true w' g ∧ (Below w.heap.size w w' ∧ w'.heap[s_.2]? = some (.cells #[.int .u8 0, .int .u8 0, .int .u8 0, .int .u8 0, .int .u8 0, .int .u8 0, .int .u8 0, .int .u8 0, .int .u8 0, .int .u8 0, .int .u8 0, .int .u8 0, .slice none 0 0] 45 (0, 0)) ∧ w5.heap.size ≤ s_.2)) ?_ ?_
  rotate_left
  · intro hCont
    refine two_ (i := 1) (j := 6) (Ni := some 29) (Nj := some 6) #[true, true, false, false, false, false, false, false, false] #[true, false, false, false, false, false, true, false, false] rfl rfl rfl rfl (by kernel_rfl) (by decide) (by decide) (fun K hK => ?_) (fun K hK => ?_)
    · skip
      replace HI := Aside0.mk HI.out.drew1
      replace HG0 := Aside0.mk (show w5.heap.size ≤ w5.drew.heap.size from Nat.le_refl _)
      replace HB := Aside0.mk (below_drew1 HB.out)
      refine make_ 63 (by rfl) rfl rfl (by decide) ?_
      have h1 := blk_new w5.drew (.cells (madeCells #[.int .u8 0] 63) 5 (0, 0))
      have h2 := below_alloc (Below.refl w5.drew.heap.size w5.drew) (.cells (madeCells #[.int .u8 0] 63) 5 (0, 0))
      generalize w5.drew.alloc (.cells (madeCells #[.int .u8 0] 63) 5 (0, 0)) = w61 at h1 h2 ⊢
      have HM := Aside0.mk (z_C h1 (by decide))
      replace HG0 := Aside0.mk (Nat.le_trans HG0.out h2.size)
      replace HI := Aside0.mk (HI.out.below h2)
      replace HB := Aside0.mk (below_step HB.out h2)
      clear h2
      refine hK.out _ _ (HI.out) (fun hHeld => ?_)
      clear hK K
      refine norm_ (a' := ?_) ?_ ?_
      rotate_left
      · show Act.put _ (some 29) _ = _
        simp only [Act.put, List.setIfInBounds_toArray, List.set_cons_zero, List.set_cons_succ, i64_w, i32_w]
        rfl
      refine two_ (i := 2) (j := 6) (Ni := some 30) (Nj := some 6) #[true, true, true, false, false, false, false, false, false] #[true, true, false, false, false, false, true, false, false] rfl rfl rfl rfl (by kernel_rfl) (by decide) (by decide) (fun K hK => ?_) (fun K hK => ?_)
      · skip
        refine goes_ Try.func34 (by kernel_rfl) rfl #[tabV true, .slice (some ⟨w5.drew.heap.size, 0, none⟩) 63 63] (by rfl) rfl rfl (by simp only [List.map_toArray, List.map_cons, List.map_nil]; rfl) ?_
        refine (mac_Decode.short (some ⟨w5.drew.heap.size, 0, none⟩) 63 (List.replicate 63 0) _ (by rw [List.length_replicate]; exact HM.out) (by rw [List.length_replicate]; exact Nat.le_refl _) (by rw [List.length_replicate]; decide)).mono ?_
        rintro e w612 ⟨rfl, h2⟩
        refine ⟨_, rfl, ?_⟩
        replace HG0 := Aside0.mk (Nat.le_trans HG0.out h2.size)
        replace HI := Aside0.mk (HI.out.below h2)
        replace HB := Aside0.mk (below_step HB.out h2)
        clear h2
        refine hK.out _ _ (HI.out) (fun hHeld => ?_)
        clear hK K
        refine norm_ (a' := ?_) ?_ ?_
        rotate_left
        · show Act.put _ (some 30) _ = _
          simp only [Act.put, List.setIfInBounds_toArray, List.set_cons_zero, List.set_cons_succ, i64_w, i32_w]
          rfl
        refine pure_ (i := 3) (N := some 27) (v := ?_) (a' := ?_) #[true, true, true, true, false, false, false, false, false] rfl rfl (by kernel_rfl) (fun _ _ _ h => h) (Or.inl ⟨by rfl, ?_⟩) ?_ ?_
        rotate_left
        · intro w'
          go_simp
          with_reducible rfl
        rotate_left
        · simp only [Act.put, List.setIfInBounds_toArray, List.set_cons_zero, List.set_cons_succ, i64_w, i32_w]
          rfl
        refine pure_ (i := 4) (N := some 31) (v := ?_) (a' := ?_) #[true, true, true, true, true, false, false, false, false] rfl rfl (by kernel_rfl) (fun _ _ _ h => h) (Or.inl ⟨by rfl, ?_⟩) ?_ ?_
        rotate_left
        · intro w'
          go_simp
          with_reducible rfl
        rotate_left
        · simp only [Act.put, List.setIfInBounds_toArray, List.set_cons_zero, List.set_cons_succ, i64_w, i32_w]
          rfl
        refine pure_ (i := 5) (N := some 32) (v := ?_) (a' := ?_) #[true, true, true, true, true, true, false, false, false] rfl rfl (by kernel_rfl) (fun _ _ _ h => h) (Or.inl ⟨by rfl, ?_⟩) ?_ ?_
        rotate_left
        · intro w'
          go_simp
          with_reducible rfl
        rotate_left
        · simp only [Act.put, List.setIfInBounds_toArray, List.set_cons_zero, List.set_cons_succ, i64_w, i32_w]
          rfl
        refine one_ (i := 6) (N := some 6) #[true, true, true, true, true, true, true, false, false] rfl rfl (by kernel_rfl) (by decide) (fun K hK => ?_)
        refine value_ (w1 := w612.alloc (.cells #[.int .u8 0, .int .u8 0, .int .u8 0, .int .u8 0, .int .u8 0, .int .u8 0, .int .u8 0, .int .u8 0, .int .u8 0, .int .u8 0, .int .u8 0, .int .u8 0, .slice none 0 0] 45 (0, 0))) (v := .pointer (some ⟨w612.heap.size, 0, none⟩)) (by rfl) rfl ?_ ?_
        · first | (go_simp; done) | (go_simp; constructor <;> rfl) | (go_simp; rfl)
        have h1 := blk_new w612 (.cells #[.int .u8 0, .int .u8 0, .int .u8 0, .int .u8 0, .int .u8 0, .int .u8 0, .int .u8 0, .int .u8 0, .int .u8 0, .int .u8 0, .int .u8 0, .int .u8 0, .slice none 0 0] 45 (0, 0))
        have h2 := below_alloc (Below.refl w612.heap.size w612) (.cells #[.int .u8 0, .int .u8 0, .int .u8 0, .int .u8 0, .int .u8 0, .int .u8 0, .int .u8 0, .int .u8 0, .int .u8 0, .int .u8 0, .int .u8 0, .int .u8 0, .slice none 0 0] 45 (0, 0))
        generalize w612.alloc (.cells #[.int .u8 0, .int .u8 0, .int .u8 0, .int .u8 0, .int .u8 0, .int .u8 0, .int .u8 0, .int .u8 0, .int .u8 0, .int .u8 0, .int .u8 0, .int .u8 0, .slice none 0 0] 45 (0, 0)) = w6126 at h1 h2 ⊢
        have HZ := Aside0.mk h1
        have HK6 := Aside0.mk (show w5.heap.size ≤ w612.heap.size from Nat.le_trans (Nat.le_refl _) HG0.out)
        replace HG0 := Aside0.mk (Nat.le_trans HG0.out h2.size)
        replace HI := Aside0.mk (HI.out.below h2)
        replace HB := Aside0.mk (below_step HB.out h2)
        clear h2
        refine hK.out _ _ (HI.out) (fun hHeld => ?_)
        clear hK K
        refine norm_ (a' := ?_) ?_ ?_
        rotate_left
        · show Act.put _ (some 6) _ = _
          simp only [Act.put, List.setIfInBounds_toArray, List.set_cons_zero, List.set_cons_succ, i64_w, i32_w]
          rfl
        exact norm_ (by simp only [putAll, Act.put, List.setIfInBounds_toArray, List.set_cons_zero, List.set_cons_succ]) (hCont (w5.drew.heap.size, w612.heap.size) _ ⟨HI.out, HB.out, HZ.out, HK6.out⟩)
      · skip
        refine value_ (w1 := w61.alloc (.cells #[.int .u8 0, .int .u8 0, .int .u8 0, .int .u8 0, .int .u8 0, .int .u8 0, .int .u8 0, .int .u8 0, .int .u8 0, .int .u8 0, .int .u8 0, .int .u8 0, .slice none 0 0] 45 (0, 0))) (v := .pointer (some ⟨w61.heap.size, 0, none⟩)) (by rfl) rfl ?_ ?_
        · first | (go_simp; done) | (go_simp; constructor <;> rfl) | (go_simp; rfl)
        have h1 := blk_new w61 (.cells #[.int .u8 0, .int .u8 0, .int .u8 0, .int .u8 0, .int .u8 0, .int .u8 0, .int .u8 0, .int .u8 0, .int .u8 0, .int .u8 0, .int .u8 0, .int .u8 0, .slice none 0 0] 45 (0, 0))
        have h2 := below_alloc (Below.refl w61.heap.size w61) (.cells #[.int .u8 0, .int .u8 0, .int .u8 0, .int .u8 0, .int .u8 0, .int .u8 0, .int .u8 0, .int .u8 0, .int .u8 0, .int .u8 0, .int .u8 0, .int .u8 0, .slice none 0 0] 45 (0, 0))
        generalize w61.alloc (.cells #[.int .u8 0, .int .u8 0, .int .u8 0, .int .u8 0, .int .u8 0, .int .u8 0, .int .u8 0, .int .u8 0, .int .u8 0, .int .u8 0, .int .u8 0, .int .u8 0, .slice none 0 0] 45 (0, 0)) = w616 at h1 h2 ⊢
        have HZ := Aside0.mk h1
        have HK6 := Aside0.mk (show w5.heap.size ≤ w61.heap.size from Nat.le_trans (Nat.le_refl _) HG0.out)
        replace HM := Aside0.mk (Kd.C_below HM.out h2)
        replace HG0 := Aside0.mk (Nat.le_trans HG0.out h2.size)
        replace HI := Aside0.mk (HI.out.below h2)
        replace HB := Aside0.mk (below_step HB.out h2)
        clear h2
        refine hK.out _ _ (HI.out) (fun hHeld => ?_)
        clear hK K
        refine norm_ (a' := ?_) ?_ ?_
        rotate_left
        · show Act.put _ (some 6) _ = _
          simp only [Act.put, List.setIfInBounds_toArray, List.set_cons_zero, List.set_cons_succ, i64_w, i32_w]
          rfl
        refine one_ (i := 2) (N := some 30) #[true, true, true, false, false, false, true, false, false] rfl rfl (by kernel_rfl) (by decide) (fun K hK => ?_)
        refine goes_ Try.func34 (by kernel_rfl) rfl #[tabV true, .slice (some ⟨w5.drew.heap.size, 0, none⟩) 63 63] (by rfl) rfl rfl (by simp only [List.map_toArray, List.map_cons, List.map_nil]; rfl) ?_
        refine (mac_Decode.short (some ⟨w5.drew.heap.size, 0, none⟩) 63 (List.replicate 63 0) _ (by rw [List.length_replicate]; exact HM.out) (by rw [List.length_replicate]; exact Nat.le_refl _) (by rw [List.length_replicate]; decide)).mono ?_
        rintro e w6162 ⟨rfl, h2⟩
        refine ⟨_, rfl, ?_⟩
        replace HZ := Aside0.mk (blk_below HZ.out h2)
        replace HG0 := Aside0.mk (Nat.le_trans HG0.out h2.size)
        replace HI := Aside0.mk (HI.out.below h2)
        replace HB := Aside0.mk (below_step HB.out h2)
        clear h2
        refine hK.out _ _ (HI.out) (fun hHeld => ?_)
        clear hK K
        refine norm_ (a' := ?_) ?_ ?_
        rotate_left
        · show Act.put _ (some 30) _ = _
          simp only [Act.put, List.setIfInBounds_toArray, List.set_cons_zero, List.set_cons_succ, i64_w, i32_w]
          rfl
        refine pure_ (i := 3) (N := some 27) (v := ?_) (a' := ?_) #[true, true, true, true, false, false, true, false, false] rfl rfl (by kernel_rfl) (fun _ _ _ h => h) (Or.inl ⟨by rfl, ?_⟩) ?_ ?_
        rotate_left
        · intro w'
          go_simp
          with_reducible rfl
        rotate_left
        · simp only [Act.put, List.setIfInBounds_toArray, List.set_cons_zero, List.set_cons_succ, i64_w, i32_w]
          rfl
        refine pure_ (i := 4) (N := some 31) (v := ?_) (a' := ?_) #[true, true, true, true, true, false, true, false, false] rfl rfl (by kernel_rfl) (fun _ _ _ h => h) (Or.inl ⟨by rfl, ?_⟩) ?_ ?_
        rotate_left
        · intro w'
          go_simp
          with_reducible rfl
        rotate_left
        · simp only [Act.put, List.setIfInBounds_toArray, List.set_cons_zero, List.set_cons_succ, i64_w, i32_w]
          rfl
        refine pure_ (i := 5) (N := some 32) (v := ?_) (a' := ?_) #[true, true, true, true, true, true, true, false, false] rfl rfl (by kernel_rfl) (fun _ _ _ h => h) (Or.inl ⟨by rfl, ?_⟩) ?_ ?_
        rotate_left
        · intro w'
          go_simp
          with_reducible rfl
        rotate_left
        · simp only [Act.put, List.setIfInBounds_toArray, List.set_cons_zero, List.set_cons_succ, i64_w, i32_w]
          rfl
        exact norm_ (by simp only [putAll, Act.put, List.setIfInBounds_toArray, List.set_cons_zero, List.set_cons_succ]) (hCont (w5.drew.heap.size, w61.heap.size) _ ⟨HI.out, HB.out, HZ.out, HK6.out⟩)
    · skip
      replace HI := Aside0.mk HI.out.drew1
      replace HG0 := Aside0.mk (show w5.heap.size ≤ w5.drew.heap.size from Nat.le_refl _)
      replace HB := Aside0.mk (below_drew1 HB.out)
      refine value_ (w1 := w5.drew.alloc (.cells #[.int .u8 0, .int .u8 0, .int .u8 0, .int .u8 0, .int .u8 0, .int .u8 0, .int .u8 0, .int .u8 0, .int .u8 0, .int .u8 0, .int .u8 0, .int .u8 0, .slice none 0 0] 45 (0, 0))) (v := .pointer (some ⟨w5.drew.heap.size, 0, none⟩)) (by rfl) rfl ?_ ?_
      · first | (go_simp; done) | (go_simp; constructor <;> rfl) | (go_simp; rfl)
      have h1 := blk_new w5.drew (.cells #[.int .u8 0, .int .u8 0, .int .u8 0, .int .u8 0, .int .u8 0, .int .u8 0, .int .u8 0, .int .u8 0, .int .u8 0, .int .u8 0, .int .u8 0, .int .u8 0, .slice none 0 0] 45 (0, 0))
      have h2 := below_alloc (Below.refl w5.drew.heap.size w5.drew) (.cells #[.int .u8 0, .int .u8 0, .int .u8 0, .int .u8 0, .int .u8 0, .int .u8 0, .int .u8 0, .int .u8 0, .int .u8 0, .int .u8 0, .int .u8 0, .int .u8 0, .slice none 0 0] 45 (0, 0))
      generalize w5.drew.alloc (.cells #[.int .u8 0, .int .u8 0, .int .u8 0, .int .u8 0, .int .u8 0, .int .u8 0, .int .u8 0, .int .u8 0, .int .u8 0, .int .u8 0, .int .u8 0, .int .u8 0, .slice none 0 0] 45 (0, 0)) = w66 at h1 h2 ⊢
      have HZ := Aside0.mk h1
      have HK6 := Aside0.mk (show w5.heap.size ≤ w5.drew.heap.size from Nat.le_trans (Nat.le_refl _) HG0.out)
      replace HG0 := Aside0.mk (Nat.le_trans HG0.out h2.size)
      replace HI := Aside0.mk (HI.out.below h2)
      replace HB := Aside0.mk (below_step HB.out h2)
      clear h2
      refine hK.out _ _ (HI.out) (fun hHeld => ?_)
      clear hK K
      refine norm_ (a' := ?_) ?_ ?_
      rotate_left
      · show Act.put _ (some 6) _ = _
        simp only [Act.put, List.setIfInBounds_toArray, List.set_cons_zero, List.set_cons_succ, i64_w, i32_w]
        rfl
      refine one_ (i := 1) (N := some 29) #[true, true, false, false, false, false, true, false, false] rfl rfl (by kernel_rfl) (by decide) (fun K hK => ?_)
      refine make_ 63 (by rfl) rfl rfl (by decide) ?_
      have h1 := blk_new w66 (.cells (madeCells #[.int .u8 0] 63) 5 (0, 0))
      have h2 := below_alloc (Below.refl w66.heap.size w66) (.cells (madeCells #[.int .u8 0] 63) 5 (0, 0))
      generalize w66.alloc (.cells (madeCells #[.int .u8 0] 63) 5 (0, 0)) = w661 at h1 h2 ⊢
      have HM := Aside0.mk (z_C h1 (by decide))
      replace HZ := Aside0.mk (blk_below HZ.out h2)
      replace HG0 := Aside0.mk (Nat.le_trans HG0.out h2.size)
      replace HI := Aside0.mk (HI.out.below h2)
      replace HB := Aside0.mk (below_step HB.out h2)
      clear h2
      refine hK.out _ _ (HI.out) (fun hHeld => ?_)
      clear hK K
      refine norm_ (a' := ?_) ?_ ?_
      rotate_left
      · show Act.put _ (some 29) _ = _
        simp only [Act.put, List.setIfInBounds_toArray, List.set_cons_zero, List.set_cons_succ, i64_w, i32_w]
        rfl
      refine one_ (i := 2) (N := some 30) #[true, true, true, false, false, false, true, false, false] rfl rfl (by kernel_rfl) (by decide) (fun K hK => ?_)
      refine goes_ Try.func34 (by kernel_rfl) rfl #[tabV true, .slice (some ⟨w66.heap.size, 0, none⟩) 63 63] (by rfl) rfl rfl (by simp only [List.map_toArray, List.map_cons, List.map_nil]; rfl) ?_
      refine (mac_Decode.short (some ⟨w66.heap.size, 0, none⟩) 63 (List.replicate 63 0) _ (by rw [List.length_replicate]; exact HM.out) (by rw [List.length_replicate]; exact Nat.le_refl _) (by rw [List.length_replicate]; decide)).mono ?_
      rintro e w6612 ⟨rfl, h2⟩
      refine ⟨_, rfl, ?_⟩
      replace HZ := Aside0.mk (blk_below HZ.out h2)
      replace HG0 := Aside0.mk (Nat.le_trans HG0.out h2.size)
      replace HI := Aside0.mk (HI.out.below h2)
      replace HB := Aside0.mk (below_step HB.out h2)
      clear h2
      refine hK.out _ _ (HI.out) (fun hHeld => ?_)
      clear hK K
      refine norm_ (a' := ?_) ?_ ?_
      rotate_left
      · show Act.put _ (some 30) _ = _
        simp only [Act.put, List.setIfInBounds_toArray, List.set_cons_zero, List.set_cons_succ, i64_w, i32_w]
        rfl
      refine pure_ (i := 3) (N := some 27) (v := ?_) (a' := ?_) #[true, true, true, true, false, false, true, false, false] rfl rfl (by kernel_rfl) (fun _ _ _ h => h) (Or.inl ⟨by rfl, ?_⟩) ?_ ?_
      rotate_left
      · intro w'
        go_simp
        with_reducible rfl
      rotate_left
      · simp only [Act.put, List.setIfInBounds_toArray, List.set_cons_zero, List.set_cons_succ, i64_w, i32_w]
        rfl
      refine pure_ (i := 4) (N := some 31) (v := ?_) (a' := ?_) #[true, true, true, true, true, false, true, false, false] rfl rfl (by kernel_rfl) (fun _ _ _ h => h) (Or.inl ⟨by rfl, ?_⟩) ?_ ?_
      rotate_left
      · intro w'
        go_simp
        with_reducible rfl
      rotate_left
      · simp only [Act.put, List.setIfInBounds_toArray, List.set_cons_zero, List.set_cons_succ, i64_w, i32_w]
        rfl
      refine pure_ (i := 5) (N := some 32) (v := ?_) (a' := ?_) #[true, true, true, true, true, true, true, false, false] rfl rfl (by kernel_rfl) (fun _ _ _ h => h) (Or.inl ⟨by rfl, ?_⟩) ?_ ?_
      rotate_left
      · intro w'
        go_simp
        with_reducible rfl
      rotate_left
      · simp only [Act.put, List.setIfInBounds_toArray, List.set_cons_zero, List.set_cons_succ, i64_w, i32_w]
        rfl
      exact norm_ (by simp only [putAll, Act.put, List.setIfInBounds_toArray, List.set_cons_zero, List.set_cons_succ]) (hCont (w66.heap.size, w5.drew.heap.size) _ ⟨HI.out, HB.out, HZ.out, HK6.out⟩)
  rintro ⟨m_, k_⟩ w6 ⟨hI_, hB_, hZ_, hK_⟩
  clear HI HB
  have HI := Aside0.mk hI_
  have HB := Aside0.mk hB_
  have HZ := Aside0.mk hZ_
  have hHeld : IsTab true w6 g := hI_
  clear hI_ hB_ hZ_ hK_
  refine norm_ (a' := ?_) ?_ ?_
  rotate_left
  · simp only [putAll, Act.put, List.setIfInBounds_toArray, List.set_cons_zero, List.set_cons_succ]
    rfl
  refine one_ (i := 7) (N := none) #[true, true, true, true, true, true, true, true, false] rfl rfl (by kernel_rfl) (by decide) (fun K hK => ?_)
  rw [if_pos (by rfl)]
  refine wp_store_row 45 (.tmp 6) (.tmp 31) rfl k_ #[.int .u8 0, .int .u8 0, .int .u8 0, .int .u8 0, .int .u8 0, .int .u8 0, .int .u8 0, .int .u8 0, .int .u8 0, .int .u8 0, .int .u8 0, .int .u8 0, .slice none 0 0] rfl rfl 45 #[.int .u8 0, .int .u8 0, .int .u8 0, .int .u8 0, .int .u8 0, .int .u8 0, .int .u8 0, .int .u8 0, .int .u8 0, .int .u8 0, .int .u8 0, .int .u8 0, .slice none 0 0] HZ.out info45_ rfl z13_one ?_
  rw [setRow_self w6 k_ #[.int .u8 0, .int .u8 0, .int .u8 0, .int .u8 0, .int .u8 0, .int .u8 0, .int .u8 0, .int .u8 0, .int .u8 0, .int .u8 0, .int .u8 0, .int .u8 0, .slice none 0 0] 45 (0, 0) HZ.out]
  refine hK.out _ _ (HI.out) (fun hHeld => ?_)
  clear hK K
  refine pure_ (i := 8) (N := some 7) (v := ?_) (a' := ?_) #[true, true, true, true, true, true, true, true, true] rfl rfl (by kernel_rfl) (fun _ _ _ h => h) (Or.inl ⟨by rfl, ?_⟩) ?_ ?_
  rotate_left
  · intro w'
    go_simp
    with_reducible rfl
  rotate_left
  · simp only [Act.put, List.setIfInBounds_toArray, List.set_cons_zero, List.set_cons_succ, i64_w, i32_w]
    rfl
  refine done_ (by kernel_rfl) ?_
  clear HZ
  go_wp2_with fail
  replace HG0 := Aside0.mk (Nat.le_refl w6.heap.size)
  refine start_ (n := 9) (S := fun w' => IsTab true w' g) (ds := []) #[false, false, false, false, false, false, false, false, false] (by kernel_rfl) rfl rfl (HI.out.drew1) (fun hHeld => ?_)
  refine take_ (i := 0) (N := some 34) (v := tabV true) #[true, false, false, false, false, false, false, false, false] rfl rfl (by kernel_rfl) (fun _ _ _ h => h) ?_ hHeld rfl ?_
  · exact yields_tab (by rfl) _ rfl _ rfl true (by intro w' s0; exact s0)
  refine norm_ (a' := ?_) ?_ ?_
  rotate_left
  · show Act.put _ (some 34) _ = _
    simp only [Act.put, List.setIfInBounds_toArray, List.set_cons_zero, List.set_cons_succ, i64_w, i32_w]
    rfl
  refine join_ (σ := Nat × Nat) 2 #[true, true, true, true, true, true, true, false, false] (fun s_ => [(35, .slice (some ⟨s_.1, 0, none⟩) 64 64), (36, .tuple #[.agg #[.int .u8 0, .int .u8 0, .int .u8 0, .int .u8 0, .int .u8 0, .int .u8 0, .int .u8 0, .int .u8 0, .int .u8 0, .int .u8 0, .int .u8 0, .int .u8 0, .slice none 0 0], .int .i64 5]), (8, .pointer (some ⟨s_.2, 0, none⟩)), (33, .tuple #[.agg #[.int .u8 0, .int .u8 0, .int .u8 0, .int .u8 0, .int .u8 0, .int .u8 0, .int .u8 0, .int .u8 0, .int .u8 0, .int .u8 0, .int .u8 0, .int .u8 0, .slice none 0 0], .int .i64 5]), (37, .agg #[.int .u8 0, .int .u8 0, .int .u8 0, .int .u8 0, .int .u8 0, .int .u8 0, .int .u8 0, .int .u8 0, .int .u8 0, .int .u8 0, .int .u8 0, .int .u8 0, .slice none 0 0]), (38, .int .i64 5)]) (fun s_ w' => IsTab true w' g ∧ (Below w.heap.size w w' ∧ w'.heap[s_.2]? = some (.cells #[.int .u8 0, .int .u8 0, .int .u8 0, .int .u8 0, .int .u8 0, .int .u8 0, .int .u8 0, .int .u8 0, .int .u8 0, .int .u8 0, .int .u8 0, .int .u8 0, .slice none 0 0] 45 (0, 0)) ∧ w6.heap.size ≤ s_.2)) ?_ ?_
  rotate_left
  · intro hCont
    refine two_ (i := 1) (j := 6) (Ni := some 35) (Nj := some 8) #[true, true, false, false, false, false, false, false, false] #[true, false, false, false, false, false, true, false, false] rfl rfl rfl rfl (by kernel_rfl) (by decide) (by decide) (fun K hK => ?_) (fun K hK => ?_)
    · skip
      replace HI := Aside0.mk HI.out.drew1
      replace HG0 := Aside0.mk (show w6.heap.size ≤ w6.drew.heap.size from Nat.le_refl _)
      replace HB := Aside0.mk (below_drew1 HB.out)
      refine make_ 64 (by rfl) rfl rfl (by decide) ?_
      have h1 := blk_new w6.drew (.cells (madeCells #[.int .u8 0] 64) 5 (0, 0))
      have h2 := below_alloc (Below.refl w6.drew.heap.size w6.drew) (.cells (madeCells #[.int .u8 0] 64) 5 (0, 0))
      generalize w6.drew.alloc (.cells (madeCells #[.int .u8 0] 64) 5 (0, 0)) = w71 at h1 h2 ⊢
      have HM := Aside0.mk (z_C h1 (by decide))
      replace HG0 := Aside0.mk (Nat.le_trans HG0.out h2.size)
      replace HI := Aside0.mk (HI.out.below h2)
      replace HB := Aside0.mk (below_step HB.out h2)
      clear h2
      refine hK.out _ _ (HI.out) (fun hHeld => ?_)
      clear hK K
      refine norm_ (a' := ?_) ?_ ?_
      rotate_left
      · show Act.put _ (some 35) _ = _
        simp only [Act.put, List.setIfInBounds_toArray, List.set_cons_zero, List.set_cons_succ, i64_w, i32_w]
        rfl
      refine two_ (i := 2) (j := 6) (Ni := some 36) (Nj := some 8) #[true, true, true, false, false, false, false, false, false] #[true, true, false, false, false, false, true, false, false] rfl rfl rfl rfl (by kernel_rfl) (by decide) (by decide) (fun K hK => ?_) (fun K hK => ?_)
      · skip
        refine goes_ Try.func34 (by kernel_rfl) rfl #[tabV true, .slice (some ⟨w6.drew.heap.size, 0, none⟩) 64 64] (by rfl) rfl rfl (by simp only [List.map_toArray, List.map_cons, List.map_nil]; rfl) ?_
        refine (mac_Decode.sum (some ⟨w6.drew.heap.size, 0, none⟩) 64 (List.replicate 64 0) _ (by rw [List.length_replicate]; exact HM.out) (by rw [List.length_replicate]; exact Nat.le_refl _) (by rw [List.length_replicate]; decide) (z_byte 64) (by rw [List.length_replicate]; decide) SO.out).mono ?_
        rintro e w712 ⟨rfl, h2⟩
        refine ⟨_, rfl, ?_⟩
        replace HG0 := Aside0.mk (Nat.le_trans HG0.out h2.size)
        replace HI := Aside0.mk (HI.out.below h2)
        replace HB := Aside0.mk (below_step HB.out h2)
        clear h2
        refine hK.out _ _ (HI.out) (fun hHeld => ?_)
        clear hK K
        refine norm_ (a' := ?_) ?_ ?_
        rotate_left
        · show Act.put _ (some 36) _ = _
          simp only [Act.put, List.setIfInBounds_toArray, List.set_cons_zero, List.set_cons_succ, i64_w, i32_w]
          rfl
        refine pure_ (i := 3) (N := some 33) (v := ?_) (a' := ?_) #[true, true, true, true, false, false, false, false, false] rfl rfl (by kernel_rfl) (fun _ _ _ h => h) (Or.inl ⟨by rfl, ?_⟩) ?_ ?_
        rotate_left
        · intro w'
          go_simp
          with_reducible rfl
        rotate_left
        · simp only [Act.put, List.setIfInBounds_toArray, List.set_cons_zero, List.set_cons_succ, i64_w, i32_w]
          rfl
        refine pure_ (i := 4) (N := some 37) (v := ?_) (a' := ?_) #[true, true, true, true, true, false, false, false, false] rfl rfl (by kernel_rfl) (fun _ _ _ h => h) (Or.inl ⟨by rfl, ?_⟩) ?_ ?_
        rotate_left
        · intro w'
          go_simp
          with_reducible rfl
        rotate_left
        · simp only [Act.put, List.setIfInBounds_toArray, List.set_cons_zero, List.set_cons_succ, i64_w, i32_w]
          rfl
        refine pure_ (i := 5) (N := some 38) (v := ?_) (a' := ?_) #[true, true, true, true, true, true, false, false, false] rfl rfl (by kernel_rfl) (fun _ _ _ h => h) (Or.inl ⟨by rfl, ?_⟩) ?_ ?_
        rotate_left
        · intro w'
          go_simp
          with_reducible rfl
        rotate_left
        · simp only [Act.put, List.setIfInBounds_toArray, List.set_cons_zero, List.set_cons_succ, i64_w, i32_w]
          rfl
        refine one_ (i := 6) (N := some 8) #[true, true, true, true, true, true, true, false, false] rfl rfl (by kernel_rfl) (by decide) (fun K hK => ?_)
        refine value_ (w1 := w712.alloc (.cells #[.int .u8 0, .int .u8 0, .int .u8 0, .int .u8 0, .int .u8 0, .int .u8 0, .int .u8 0, .int .u8 0, .int .u8 0, .int .u8 0, .int .u8 0, .int .u8 0, .slice none 0 0] 45 (0, 0))) (v := .pointer (some ⟨w712.heap.size, 0, none⟩)) (by rfl) rfl ?_ ?_
        · first | (go_simp; done) | (go_simp; constructor <;> rfl) | (go_simp; rfl)
        have h1 := blk_new w712 (.cells #[.int .u8 0, .int .u8 0, .int .u8 0, .int .u8 0, .int .u8 0, .int .u8 0, .int .u8 0, .int .u8 0, .int .u8 0, .int .u8 0, .int .u8 0, .int .u8 0, .slice none 0 0] 45 (0, 0))
        have h2 := below_alloc (Below.refl w712.heap.size w712) (.cells #[.int .u8 0, .int .u8 0, .int .u8 0, .int .u8 0, .int .u8 0, .int .u8 0, .int .u8 0, .int .u8 0, .int .u8 0, .int .u8 0, .int .u8 0, .int .u8 0, .slice none 0 0] 45 (0, 0))
        generalize w712.alloc (.cells #[.int .u8 0, .int .u8 0, .int .u8 0, .int .u8 0, .int .u8 0, .int .u8 0, .int .u8 0, .int .u8 0, .int .u8 0, .int .u8 0, .int .u8 0, .int .u8 0, .slice none 0 0] 45 (0, 0)) = w7126 at h1 h2 ⊢
        have HZ := Aside0.mk h1
        have HK6 := Aside0.mk (show w6.heap.size ≤ w712.heap.size from Nat.le_trans (Nat.le_refl _) HG0.out)
        replace HG0 := Aside0.mk (Nat.le_trans HG0.out h2.size)
        replace HI := Aside0.mk (HI.out.below h2)
        replace HB := Aside0.mk (below_step HB.out h2)
        clear h2
        refine hK.out _ _ (HI.out) (fun hHeld => ?_)
        clear hK K
        refine norm_ (a' := ?_) ?_ ?_
        rotate_left
        · show Act.put _ (some 8) _ = _
          simp only [Act.put, List.setIfInBounds_toArray, List.set_cons_zero, List.set_cons_succ, i64_w, i32_w]
          rfl
        exact norm_ (by simp only [putAll, Act.put, List.setIfInBounds_toArray, List.set_cons_zero, List.set_cons_succ]) (hCont (w6.drew.heap.size, w712.heap.size) _ ⟨HI.out, HB.out, HZ.out, HK6.out⟩)
      · skip
        refine value_ (w1 := w71.alloc (.cells #[.int .u8 0, .int .u8 0, .int .u8 0, .int .u8 0, .int .u8 0, .int .u8 0, .int .u8 0, .int .u8 0, .int .u8 0, .int .u8 0, .int .u8 0, .int .u8 0, .slice none 0 0] 45 (0, 0))) (v := .pointer (some ⟨w71.heap.size, 0, none⟩)) (by rfl) rfl ?_ ?_
        · first | (go_simp; done) | (go_simp; constructor <;> rfl) | (go_simp; rfl)
        have h1 := blk_new w71 (.cells #[.int .u8 0, .int .u8 0, .int .u8 0, .int .u8 0, .int .u8 0, .int .u8 0, .int .u8 0, .int .u8 0, .int .u8 0, .int .u8 0, .int .u8 0, .int .u8 0, .slice none 0 0] 45 (0, 0))
        have h2 := below_alloc (Below.refl w71.heap.size w71) (.cells #[.int .u8 0, .int .u8 0, .int .u8 0, .int .u8 0, .int .u8 0, .int .u8 0, .int .u8 0, .int .u8 0, .int .u8 0, .int .u8 0, .int .u8 0, .int .u8 0, .slice none 0 0] 45 (0, 0))
        generalize w71.alloc (.cells #[.int .u8 0, .int .u8 0, .int .u8 0, .int .u8 0, .int .u8 0, .int .u8 0, .int .u8 0, .int .u8 0, .int .u8 0, .int .u8 0, .int .u8 0, .int .u8 0, .slice none 0 0] 45 (0, 0)) = w716 at h1 h2 ⊢
        have HZ := Aside0.mk h1
        have HK6 := Aside0.mk (show w6.heap.size ≤ w71.heap.size from Nat.le_trans (Nat.le_refl _) HG0.out)
        replace HM := Aside0.mk (Kd.C_below HM.out h2)
        replace HG0 := Aside0.mk (Nat.le_trans HG0.out h2.size)
        replace HI := Aside0.mk (HI.out.below h2)
        replace HB := Aside0.mk (below_step HB.out h2)
        clear h2
        refine hK.out _ _ (HI.out) (fun hHeld => ?_)
        clear hK K
        refine norm_ (a' := ?_) ?_ ?_
        rotate_left
        · show Act.put _ (some 8) _ = _
          simp only [Act.put, List.setIfInBounds_toArray, List.set_cons_zero, List.set_cons_succ, i64_w, i32_w]
          rfl
        refine one_ (i := 2) (N := some 36) #[true, true, true, false, false, false, true, false, false] rfl rfl (by kernel_rfl) (by decide) (fun K hK => ?_)
        refine goes_ Try.func34 (by kernel_rfl) rfl #[tabV true, .slice (some ⟨w6.drew.heap.size, 0, none⟩) 64 64] (by rfl) rfl rfl (by simp only [List.map_toArray, List.map_cons, List.map_nil]; rfl) ?_
        refine (mac_Decode.sum (some ⟨w6.drew.heap.size, 0, none⟩) 64 (List.replicate 64 0) _ (by rw [List.length_replicate]; exact HM.out) (by rw [List.length_replicate]; exact Nat.le_refl _) (by rw [List.length_replicate]; decide) (z_byte 64) (by rw [List.length_replicate]; decide) SO.out).mono ?_
        rintro e w7162 ⟨rfl, h2⟩
        refine ⟨_, rfl, ?_⟩
        replace HZ := Aside0.mk (blk_below HZ.out h2)
        replace HG0 := Aside0.mk (Nat.le_trans HG0.out h2.size)
        replace HI := Aside0.mk (HI.out.below h2)
        replace HB := Aside0.mk (below_step HB.out h2)
        clear h2
        refine hK.out _ _ (HI.out) (fun hHeld => ?_)
        clear hK K
        refine norm_ (a' := ?_) ?_ ?_
        rotate_left
        · show Act.put _ (some 36) _ = _
          simp only [Act.put, List.setIfInBounds_toArray, List.set_cons_zero, List.set_cons_succ, i64_w, i32_w]
          rfl
        refine pure_ (i := 3) (N := some 33) (v := ?_) (a' := ?_) #[true, true, true, true, false, false, true, false, false] rfl rfl (by kernel_rfl) (fun _ _ _ h => h) (Or.inl ⟨by rfl, ?_⟩) ?_ ?_
        rotate_left
        · intro w'
          go_simp
          with_reducible rfl
        rotate_left
        · simp only [Act.put, List.setIfInBounds_toArray, List.set_cons_zero, List.set_cons_succ, i64_w, i32_w]
          rfl
        refine pure_ (i := 4) (N := some 37) (v := ?_) (a' := ?_) #[true, true, true, true, true, false, true, false, false] rfl rfl (by kernel_rfl) (fun _ _ _ h => h) (Or.inl ⟨by rfl, ?_⟩) ?_ ?_
        rotate_left
        · intro w'
          go_simp
          with_reducible rfl
        rotate_left
        · simp only [Act.put, List.setIfInBounds_toArray, List.set_cons_zero, List.set_cons_succ, i64_w, i32_w]
          rfl
        refine pure_ (i := 5) (N := some 38) (v := ?_) (a' := ?_) #[true, true, true, true, true, true, true, false, false] rfl rfl (by kernel_rfl) (fun _ _ _ h => h) (Or.inl ⟨by rfl, ?_⟩) ?_ ?_
        rotate_left
        · intro w'
          go_simp
          with_reducible rfl
        rotate_left
        · simp only [Act.put, List.setIfInBounds_toArray, List.set_cons_zero, List.set_cons_succ, i64_w, i32_w]
          rfl
        exact norm_ (by simp only [putAll, Act.put, List.setIfInBounds_toArray, List.set_cons_zero, List.set_cons_succ]) (hCont (w6.drew.heap.size, w71.heap.size) _ ⟨HI.out, HB.out, HZ.out, HK6.out⟩)
    · skip
      replace HI := Aside0.mk HI.out.drew1
      replace HG0 := Aside0.mk (show w6.heap.size ≤ w6.drew.heap.size from Nat.le_refl _)
      replace HB := Aside0.mk (below_drew1 HB.out)
      refine value_ (w1 := w6.drew.alloc (.cells #[.int .u8 0, .int .u8 0, .int .u8 0, .int .u8 0, .int .u8 0, .int .u8 0, .int .u8 0, .int .u8 0, .int .u8 0, .int .u8 0, .int .u8 0, .int .u8 0, .slice none 0 0] 45 (0, 0))) (v := .pointer (some ⟨w6.drew.heap.size, 0, none⟩)) (by rfl) rfl ?_ ?_
      · first | (go_simp; done) | (go_simp; constructor <;> rfl) | (go_simp; rfl)
      have h1 := blk_new w6.drew (.cells #[.int .u8 0, .int .u8 0, .int .u8 0, .int .u8 0, .int .u8 0, .int .u8 0, .int .u8 0, .int .u8 0, .int .u8 0, .int .u8 0, .int .u8 0, .int .u8 0, .slice none 0 0] 45 (0, 0))
      have h2 := below_alloc (Below.refl w6.drew.heap.size w6.drew) (.cells #[.int .u8 0, .int .u8 0, .int .u8 0, .int .u8 0, .int .u8 0, .int .u8 0, .int .u8 0, .int .u8 0, .int .u8 0, .int .u8 0, .int .u8 0, .int .u8 0, .slice none 0 0] 45 (0, 0))
      generalize w6.drew.alloc (.cells #[.int .u8 0, .int .u8 0, .int .u8 0, .int .u8 0, .int .u8 0, .int .u8 0, .int .u8 0, .int .u8 0, .int .u8 0, .int .u8 0, .int .u8 0, .int .u8 0, .slice none 0 0] 45 (0, 0)) = w76 at h1 h2 ⊢
      have HZ := Aside0.mk h1
      have HK6 := Aside0.mk (show w6.heap.size ≤ w6.drew.heap.size from Nat.le_trans (Nat.le_refl _) HG0.out)
      replace HG0 := Aside0.mk (Nat.le_trans HG0.out h2.size)
      replace HI := Aside0.mk (HI.out.below h2)
      replace HB := Aside0.mk (below_step HB.out h2)
      clear h2
      refine hK.out _ _ (HI.out) (fun hHeld => ?_)
      clear hK K
      refine norm_ (a' := ?_) ?_ ?_
      rotate_left
      · show Act.put _ (some 8) _ = _
        simp only [Act.put, List.setIfInBounds_toArray, List.set_cons_zero, List.set_cons_succ, i64_w, i32_w]
        rfl
      refine one_ (i := 1) (N := some 35) #[true, true, false, false, false, false, true, false, false] rfl rfl (by kernel_rfl) (by decide) (fun K hK => ?_)
      refine make_ 64 (by rfl) rfl rfl (by decide) ?_
      have h1 := blk_new w76 (.cells (madeCells #[.int .u8 0] 64) 5 (0, 0))
      have h2 := below_alloc (Below.refl w76.heap.size w76) (.cells (madeCells #[.int .u8 0] 64) 5 (0, 0))
      generalize w76.alloc (.cells (madeCells #[.int .u8 0] 64) 5 (0, 0)) = w761 at h1 h2 ⊢
      have HM := Aside0.mk (z_C h1 (by decide))
      replace HZ := Aside0.mk (blk_below HZ.out h2)
      replace HG0 := Aside0.mk (Nat.le_trans HG0.out h2.size)
      replace HI := Aside0.mk (HI.out.below h2)
      replace HB := Aside0.mk (below_step HB.out h2)
      clear h2
      refine hK.out _ _ (HI.out) (fun hHeld => ?_)
      clear hK K
      refine norm_ (a' := ?_) ?_ ?_
      rotate_left
      · show Act.put _ (some 35) _ = _
        simp only [Act.put, List.setIfInBounds_toArray, List.set_cons_zero, List.set_cons_succ, i64_w, i32_w]
        rfl
      refine one_ (i := 2) (N := some 36) #[true, true, true, false, false, false, true, false, false] rfl rfl (by kernel_rfl) (by decide) (fun K hK => ?_)
      refine goes_ Try.func34 (by kernel_rfl) rfl #[tabV true, .slice (some ⟨w76.heap.size, 0, none⟩) 64 64] (by rfl) rfl rfl (by simp only [List.map_toArray, List.map_cons, List.map_nil]; rfl) ?_
      refine (mac_Decode.sum (some ⟨w76.heap.size, 0, none⟩) 64 (List.replicate 64 0) _ (by rw [List.length_replicate]; exact HM.out) (by rw [List.length_replicate]; exact Nat.le_refl _) (by rw [List.length_replicate]; decide) (z_byte 64) (by rw [List.length_replicate]; decide) SO.out).mono ?_
      rintro e w7612 ⟨rfl, h2⟩
      refine ⟨_, rfl, ?_⟩
      replace HZ := Aside0.mk (blk_below HZ.out h2)
      replace HG0 := Aside0.mk (Nat.le_trans HG0.out h2.size)
      replace HI := Aside0.mk (HI.out.below h2)
      replace HB := Aside0.mk (below_step HB.out h2)
      clear h2
      refine hK.out _ _ (HI.out) (fun hHeld => ?_)
      clear hK K
      refine norm_ (a' := ?_) ?_ ?_
      rotate_left
      · show Act.put _ (some 36) _ = _
        simp only [Act.put, List.setIfInBounds_toArray, List.set_cons_zero, List.set_cons_succ, i64_w, i32_w]
        rfl
      refine pure_ (i := 3) (N := some 33) (v := ?_) (a' := ?_) #[true, true, true, true, false, false, true, false, false] rfl rfl (by kernel_rfl) (fun _ _ _ h => h) (Or.inl ⟨by rfl, ?_⟩) ?_ ?_
      rotate_left
      · intro w'
        go_simp
        with_reducible rfl
      rotate_left
      · simp only [Act.put, List.setIfInBounds_toArray, List.set_cons_zero, List.set_cons_succ, i64_w, i32_w]
        rfl
      refine pure_ (i := 4) (N := some 37) (v := ?_) (a' := ?_) #[true, true, true, true, true, false, true, false, false] rfl rfl (by kernel_rfl) (fun _ _ _ h => h) (Or.inl ⟨by rfl, ?_⟩) ?_ ?_
      rotate_left
      · intro w'
        go_simp
        with_reducible rfl
      rotate_left
      · simp only [Act.put, List.setIfInBounds_toArray, List.set_cons_zero, List.set_cons_succ, i64_w, i32_w]
        rfl
      refine pure_ (i := 5) (N := some 38) (v := ?_) (a' := ?_) #[true, true, true, true, true, true, true, false, false] rfl rfl (by kernel_rfl) (fun _ _ _ h => h) (Or.inl ⟨by rfl, ?_⟩) ?_ ?_
      rotate_left
      · intro w'
        go_simp
        with_reducible rfl
      rotate_left
      · simp only [Act.put, List.setIfInBounds_toArray, List.set_cons_zero, List.set_cons_succ, i64_w, i32_w]
        rfl
      exact norm_ (by simp only [putAll, Act.put, List.setIfInBounds_toArray, List.set_cons_zero, List.set_cons_succ]) (hCont (w76.heap.size, w6.drew.heap.size) _ ⟨HI.out, HB.out, HZ.out, HK6.out⟩)
  rintro ⟨m_, k_⟩ w7 ⟨hI_, hB_, hZ_, hK_⟩
  clear HI HB
  have HI := Aside0.mk hI_
  have HB := Aside0.mk hB_
  have HZ := Aside0.mk hZ_
  have hHeld : IsTab true w7 g := hI_
  clear hI_ hB_ hZ_ hK_
  refine norm_ (a' := ?_) ?_ ?_
  rotate_left
  · simp only [putAll, Act.put, List.setIfInBounds_toArray, List.set_cons_zero, List.set_cons_succ]
    rfl
  refine one_ (i := 7) (N := none) #[true, true, true, true, true, true, true, true, false] rfl rfl (by kernel_rfl) (by decide) (fun K hK => ?_)
  rw [if_pos (by rfl)]
  refine wp_store_row 45 (.tmp 8) (.tmp 37) rfl k_ #[.int .u8 0, .int .u8 0, .int .u8 0, .int .u8 0, .int .u8 0, .int .u8 0, .int .u8 0, .int .u8 0, .int .u8 0, .int .u8 0, .int .u8 0, .int .u8 0, .slice none 0 0] rfl rfl 45 #[.int .u8 0, .int .u8 0, .int .u8 0, .int .u8 0, .int .u8 0, .int .u8 0, .int .u8 0, .int .u8 0, .int .u8 0, .int .u8 0, .int .u8 0, .int .u8 0, .slice none 0 0] HZ.out info45_ rfl z13_one ?_
  rw [setRow_self w7 k_ #[.int .u8 0, .int .u8 0, .int .u8 0, .int .u8 0, .int .u8 0, .int .u8 0, .int .u8 0, .int .u8 0, .int .u8 0, .int .u8 0, .int .u8 0, .int .u8 0, .slice none 0 0] 45 (0, 0) HZ.out]
  refine hK.out _ _ (HI.out) (fun hHeld => ?_)
  clear hK K
  refine pure_ (i := 8) (N := some 9) (v := ?_) (a' := ?_) #[true, true, true, true, true, true, true, true, true] rfl rfl (by kernel_rfl) (fun _ _ _ h => h) (Or.inl ⟨by rfl, ?_⟩) ?_ ?_
  rotate_left
  · intro w'
    go_simp
    with_reducible rfl
  rotate_left
  · simp only [Act.put, List.setIfInBounds_toArray, List.set_cons_zero, List.set_cons_succ, i64_w, i32_w]
    rfl
  refine done_ (by kernel_rfl) ?_
  clear HZ
  go_wp2_with fail
  refine (mac_Station.calls 3 _ _ _ _ _ _ _ S3.out).mono ?_
  rintro e x1 ⟨rfl, hB⟩
  have hS := (show Below w7.heap.size w7 x1 from below_step (by repeat (first | with_reducible exact Below.refl _ _ | with_reducible apply below_drew1 | with_reducible apply pw_below_drewN | with_reducible apply below_alloc)) hB)
  replace HI := Aside0.mk (HI.out.below hS)
  replace HB := Aside0.mk (below_step HB.out hS)
  clear hS hB
  go_wp2_with fail
  refine (mac_Group.calls _ _ _ _ _ _ _ _ SG3.out).mono ?_
  rintro e x2 ⟨rfl, hB⟩
  have hS := (show Below x1.heap.size x1 x2 from below_step (by repeat (first | with_reducible exact Below.refl _ _ | with_reducible apply below_drew1 | with_reducible apply pw_below_drewN | with_reducible apply below_alloc)) hB)
  replace HI := Aside0.mk (HI.out.below hS)
  replace HB := Aside0.mk (below_step HB.out hS)
  clear hS hB
  go_wp2_with fail
  refine (mac_All.calls _ _ _ _ _ _ _ SA.out).mono ?_
  rintro e x3 ⟨rfl, hB⟩
  have hS := (show Below x2.heap.size x2 x3 from below_step (by repeat (first | with_reducible exact Below.refl _ _ | with_reducible apply below_drew1 | with_reducible apply pw_below_drewN | with_reducible apply below_alloc)) hB)
  replace HI := Aside0.mk (HI.out.below hS)
  replace HB := Aside0.mk (below_step HB.out hS)
  clear hS hB
  go_wp2_with fail
  refine (mac_Group.calls _ _ _ _ _ _ _ _ SGA.out).mono ?_
  rintro e x4 ⟨rfl, hB⟩
  have hS := (show Below x3.heap.size x3 x4 from below_step (by repeat (first | with_reducible exact Below.refl _ _ | with_reducible apply below_drew1 | with_reducible apply pw_below_drewN | with_reducible apply below_alloc)) hB)
  replace HI := Aside0.mk (HI.out.below hS)
  replace HB := Aside0.mk (below_step HB.out hS)
  clear hS hB
  go_wp2_with fail
  refine (mac_Station.calls 3 _ _ _ _ _ _ _ S3.out).mono ?_
  rintro e x5 ⟨rfl, hB⟩
  have hS := (show Below x4.heap.size x4 x5 from below_step (by repeat (first | with_reducible exact Below.refl _ _ | with_reducible apply below_drew1 | with_reducible apply pw_below_drewN | with_reducible apply below_alloc)) hB)
  replace HI := Aside0.mk (HI.out.below hS)
  replace HB := Aside0.mk (below_step HB.out hS)
  clear hS hB
  go_wp2_with fail
  refine (mac_Number.calls _ _ _ _ _ _ _ _ SN3.out).mono ?_
  rintro e x6 ⟨rfl, hB⟩
  have hS := (show Below x5.heap.size x5 x6 from below_step (by repeat (first | with_reducible exact Below.refl _ _ | with_reducible apply below_drew1 | with_reducible apply pw_below_drewN | with_reducible apply below_alloc)) hB)
  replace HI := Aside0.mk (HI.out.below hS)
  replace HB := Aside0.mk (below_step HB.out hS)
  clear hS hB
  go_wp2_with fail
  refine (mac_All.calls _ _ _ _ _ _ _ SA.out).mono ?_
  rintro e x7 ⟨rfl, hB⟩
  have hS := (show Below x6.heap.size x6 x7 from below_step (by repeat (first | with_reducible exact Below.refl _ _ | with_reducible apply below_drew1 | with_reducible apply pw_below_drewN | with_reducible apply below_alloc)) hB)
  replace HI := Aside0.mk (HI.out.below hS)
  replace HB := Aside0.mk (below_step HB.out hS)
  clear hS hB
  go_wp2_with fail
  refine (mac_Number.calls _ _ _ _ _ _ _ _ SNA.out).mono ?_
  rintro e x8 ⟨rfl, hB⟩
  have hS := (show Below x7.heap.size x7 x8 from below_step (by repeat (first | with_reducible exact Below.refl _ _ | with_reducible apply below_drew1 | with_reducible apply pw_below_drewN | with_reducible apply below_alloc)) hB)
  replace HI := Aside0.mk (HI.out.below hS)
  replace HB := Aside0.mk (below_step HB.out hS)
  clear hS hB
  go_wp2_with fail
  go_ret
  exact ⟨rfl, HB.out⟩
end Go.Proofs.Ytpalloofjljhkaa.P
/-! WalkMacKnown -/
namespace Go.Proofs.Ytpalloofjljhkaa.P
open Go.RowKit Go.Proofs.YtpalloofjljhkaaW.PrintWords Go.Proofs.YtpalloofjljhkaaW.PrintLast Go.Proofs.YtpalloofjljhkaaW.PrintMore
set_option linter.unusedVariables false
def antiphonlaw3_MacKnown.Pure : Prop := antiphonlaw3_MacKnown.f  = some true
theorem antiphonlaw3_MacKnown.walk (P : antiphonlaw3_MacKnown.Pure)  (w : World)  :
    Calls Try.prog 16 #[] w fun e w' => e = .returned (.bool true) ∧ Below w.heap.size w w' := by
  have h := P  
  refine (antiphonlaw3_MacKnown.calls true w h).mono ?_
  rintro e w' ⟨rfl, hd⟩
  exact ⟨rfl, hd⟩
end Go.Proofs.Ytpalloofjljhkaa.P
/-! PureMacKnown -/
namespace Go.Proofs.Ytpalloofjljhkaa.Pure
open Go.RowKit Go.Proofs.Ytpalloofjljhkaa Go.Proofs.Ytpalloofjljhkaa.P Go.Proofs.YtpalloofjljhkaaW.PrintWords Go.Proofs.YtpalloofjljhkaaW.PrintLast
theorem MacKnown : antiphonlaw3_MacKnown.Pure := rfl
end Go.Proofs.Ytpalloofjljhkaa.Pure
/-! LawMacKnown -/
namespace Go.Proofs.Ytpalloofjljhkaa.macKnown
open Go.ChangeShapes Go.WideShapes Go.ChangeAt Go.RowKit
open Go.ChangeMaps (open_string shut_string)
set_option linter.unusedVariables false
theorem own : ownKnob Try.prog.godebug = none := by kernel_rfl
theorem laidOut : laidOutB Try.prog = true := by kernel_rfl
set_option maxRecDepth 100000 in
theorem lifted (os : Os) (started : os.Started) (H : Type) (enc : TypeId × Value → H) :
    ReturnsInHanded {} Try.checked os 16 .any (Rows.macKnownSpec.pre6 enc Try.prog Try.f16 Rows.macKnownRow.domain false) (Rows.macKnownSpec.post enc Try.prog Try.f16 false true false false) := by
  refine returnsInHanded_of_change_sized (C := Try.checked) own started (by kernel_rfl) Try.func16
    (ChangeSpec.witness6 (enc := enc) (C := Try.checked) false ⟨#[], #[], []⟩ 8 (by kernel_rfl) (by kernel_rfl) (by kernel_rfl) (by kernel_rfl)) ?_
  intro W base args ds gs before hval0 hW hcnd hsz0 _
  have hsz : (DataW.weightsEach Try.prog (Try.f16.params.toList ++ Rows.macKnownSpec.plain.varTypes Try.prog) (ds ++ gs)).all (· ≤ reachBytes) = true := hsz0
  have hval : ∀ (j : Nat) t v, Try.f16.params[j]? = some t → args[j]? = some v → Value.okWide Try.prog W .any base t v := hval0
  have hW' := hW
  obtain ⟨p, q, hA0, hV, rfl, hfz, hnd⟩ := hW
  have hA : DataW.TrodAll enc Try.prog W 0 (fun _ => true) true Try.f16.params.toList args.toList ds p := hA0
  rw [Try.params16] at hA hval hsz
  obtain ⟨rfl, rfl, rfl⟩ := trodAll_none hA
  obtain ⟨rfl, rfl⟩ := trodVars_none hV
  clear hA0 hval0 hsz0 hsz
  refine (P.antiphonlaw3_MacKnown.walk Pure.MacKnown  W ).mono fun e W' ⟨he, bel⟩ => ?_
  subst he
  exact ⟨_, rfl, _, _, _, [], _, [], hW', trodAll_mk1 (shut_bool Try.underlying4 _), trodAll_mk0, rfl, bel.frame _, fun h => by cases h⟩
theorem fact0 : (Rows.macKnownRow.wf (OpenSpec.ofChange Rows.macKnownSpec)) = true := by kernel_rfl
theorem fact1 : (laidOutB Try.prog) = true := Kit.laidOut
theorem fact2 : (mapsRowed Try.prog) = true := Kit.mapsRowed
theorem fact3 : (Try.f16.params.all (Try.prog.readableRec ·)) = true := by kernel_rfl
theorem fact4 : (namedTie Try.prog Rows.macKnownRow.named Rows.macKnownSpec.vars) = true := by kernel_rfl
theorem fact5 : ((Rows.macKnownRow.stops == [])) = true := by kernel_rfl
theorem fact6 : ((Try.prog.stops == [])) = true := Kit.stops
theorem fact7 : ((Rows.macKnownRow.knobs == [])) = true := by kernel_rfl
theorem fact8 : ((Try.prog.stopKnobs == [])) = true := Kit.stopKnobs
theorem fact9 : ((Rows.macKnownRow.inPlace == Try.prog.inPlace 16)) = true := by kernel_rfl
theorem fact10 : ((Rows.macKnownRow.unfollowed == Try.prog.unfollowed 16)) = true := by kernel_rfl
theorem fact11 : ((Rows.macKnownRow.recurses == Try.prog.recurses 16)) = true := by kernel_rfl
theorem fact12 : ((Rows.macKnownRow.named == Try.prog.varsNamed 16)) = true := by kernel_rfl
theorem fact13 : ((Rows.macKnownRow.maps == (Try.f16.params.toList ++ Rows.macKnownSpec.plain.varTypes Try.prog).any (Try.prog.mapsRec ·))) = true := by kernel_rfl
theorem fact14 : ((Rows.macKnownRow.ifaces == (Try.f16.params.toList ++ Rows.macKnownSpec.plain.varTypes Try.prog).any (Try.prog.ifacesRec ·))) = true := by kernel_rfl
theorem fact15 : ((Rows.macKnownRow.mapsOut == Try.prog.mapsAmong Try.f16.resultTypes.toList)) = true := by kernel_rfl
theorem fact16 : ((Rows.macKnownRow.loops == (Try.f16.params.toList ++ Rows.macKnownSpec.plain.varTypes Try.prog).any (Try.prog.loopsFrom ·))) = true := by kernel_rfl
theorem fact17 : ((Rows.macKnownRow.wideKeys == (Try.f16.params.toList ++ Rows.macKnownSpec.plain.varTypes Try.prog ++ Try.f16.resultTypes.toList).any (Try.prog.wideKeysFrom ·))) = true := by kernel_rfl
theorem fact18 : (Rows.macKnownSpec.vars.all (Try.prog.varReadable ·)) = true := by kernel_rfl
theorem fact19 : (Try.f16.resultTypes.all (fun t => Try.prog.readableRec t && decide (t < Try.prog.types.size))) = true := by kernel_rfl
theorem fact20 : ((Rows.macKnownRow.ifacesOut == Try.f16.resultTypes.toList.any (Try.prog.ifacesRec ·))) = true := by kernel_rfl
theorem fact21 : ((Rows.macKnownRow.loopsOut == Try.f16.resultTypes.toList.any (Try.prog.loopsFrom ·))) = true := by kernel_rfl
theorem fact22 : ((Rows.macKnownRow.plainKeys == Try.prog.plainKeys)) = true := (by rw [Kit.plainKeys]; rfl)
theorem fact23 : (Rows.macKnownRow.shortTexts.isNone) = true := by kernel_rfl
theorem fact24 : (Try.prog.stopsHeard) = true := Kit.stopsHeard
theorem fact25 : (Try.prog.mayEnter) = true := Kit.mayEnter
theorem fact26 : ((Rows.macKnownRow.lifted == Try.prog.liftsFinal)) = true := (by rw [Kit.liftsFinal]; rfl)
theorem fact27 : ((Try.prog.make == some Rows.macKnownRow.make)) = true := (by rw [Kit.make]; rfl)
theorem fact28 : ((Rows.macKnownRow.kinds == (if Rows.macKnownRow.domain.isEmpty then [] else Try.f16.params.toList.map fun t => match Try.prog.underlying t with | some (.int k) => some k | _ => none))) = true := by kernel_rfl
theorem fact29 : ((Rows.macKnownRow.pinned == Rows.macKnownRow.pinnedBy)) = true := by kernel_rfl
theorem fact30 : ((Rows.macKnownRow.veiled == (Try.f16.params.toList ++ Rows.macKnownSpec.plain.varTypes Try.prog ++ Try.f16.resultTypes.toList).any (Try.prog.veiledRec ·))) = true := by kernel_rfl
theorem fact31 : (Rows.macKnownRow.veiledFits Try.prog Try.f16.params.toList (Try.f16.params.toList ++ Rows.macKnownSpec.plain.varTypes Try.prog ++ Try.f16.resultTypes.toList)) = true := by kernel_rfl
set_option maxRecDepth 100000 in
theorem closed : joinedFacts Try.prog 16 Try.f16 Rows.macKnownSpec Rows.macKnownRow = true := by
  unfold joinedFacts
  exact (Kit.and2 (Kit.and2 (Kit.and2 (Kit.and2 (Kit.and2 (Kit.and2 (Kit.and2 (Kit.and2 (Kit.and2 (Kit.and2 (Kit.and2 (Kit.and2 (Kit.and2 (Kit.and2 (Kit.and2 (Kit.and2 (Kit.and2 (Kit.and2 (Kit.and2 (Kit.and2 (Kit.and2 (Kit.and2 (Kit.and2 (Kit.and2 (Kit.and2 (Kit.and2 (Kit.and2 (Kit.and2 (Kit.and2 (Kit.and2 (Kit.and2 fact0 fact1) fact2) fact3) fact4) fact5) fact6) fact7) fact8) fact9) fact10) fact11) fact12) fact13) fact14) fact15) fact16) fact17) fact18) fact19) fact20) fact21) fact22) fact23) fact24) fact25) fact26) fact27) fact28) fact29) fact30) fact31)
theorem named : Try.prog.funcNamed Rows.macKnownRow.func = some 16 := by kernel_rfl
theorem inst : Try.f16.isInstance Try.prog Rows.macKnownRow.origin Rows.macKnownRow.targs := of_decide_eq_true (by kernel_rfl)
theorem wrap_ : Try.f16.isWrapper Try.prog Rows.macKnownRow.wrapper Rows.macKnownRow.mainSum := by unfold Func.isWrapper; first | (rw [if_pos (by decide +kernel)]; kernel_rfl) | (rw [if_neg (by decide +kernel)]; exact ⟨rfl, rfl⟩)
theorem over : Rows.macKnownRow.holds Try.pinned (OpenSpec.ofChange Rows.macKnownSpec) :=
  OpenClaim.holds_of_wide 16 Try.f16 rfl rfl rfl rfl rfl rfl rfl ⟨rfl, rfl, rfl, rfl, rfl⟩ rfl rfl rfl rfl rfl named Try.func16 closed
    inst wrap_
    (fun os started H enc _ => lifted os started H enc)
theorem proved : Rows.MacKnownSaid := over
#print axioms proved
end Go.Proofs.Ytpalloofjljhkaa.macKnown
namespace Go.Proofs.Ytpalloofjljhkaa
theorem macKnown_holds : Rows.MacKnownSaid := macKnown.proved
end Go.Proofs.Ytpalloofjljhkaa
