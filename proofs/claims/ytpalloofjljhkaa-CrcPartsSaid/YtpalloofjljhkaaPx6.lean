-- Written by this session (wip/crc/mklaws.py).
import Derived.Test.YtpalloofjljhkaaRef
namespace Go.Proofs.Ytpalloofjljhkaa.P
open Go.RowKit Go.Proofs.Ytpalloofjljhkaa.Lib Go.Proofs.YtpalloofjljhkaaW.PrintWords Go.Proofs.YtpalloofjljhkaaW.PrintLast Go.Proofs.YtpalloofjljhkaaW.PrintMore
set_option linter.unusedVariables false
set_option linter.unusedSimpArgs false
def antiphonlaw2_CrcParts.f (l0 : List (List Int)) : Option Bool := if ∀ b ∈ l0, ∀ c ∈ b, 0 ≤ c ∧ c < 256 then some true else none
theorem parts_open {l0 : List (List Int)} {r : Bool} (h : antiphonlaw2_CrcParts.f l0 = some r) : true = r ∧ ∀ b ∈ l0, byteRow b := by
  unfold antiphonlaw2_CrcParts.f at h
  split at h
  · rename_i hh; exact ⟨Option.some.inj h, hh⟩
  · cases h
theorem flat_take {l : List (List Int)} {k : Nat} (hk : k < l.length) : (l.take (k + 1)).flatten = (l.take k).flatten ++ rd_L1 l (k : Int) := by
  unfold rd_L1
  rw [List.take_succ_eq_append_getElem hk, List.flatten_append, Int.toNat_natCast, List.getD_eq_getElem?_getD, List.getElem?_eq_getElem hk]
  simp
theorem rd_mem {l : List (List Int)} {k : Nat} (hk : k < l.length) : rd_L1 l (k : Int) ∈ l := by
  unfold rd_L1
  rw [Int.toNat_natCast, List.getD_eq_getElem?_getD, List.getElem?_eq_getElem hk]
  exact List.getElem_mem hk
theorem flat_byte {l : List (List Int)} (h : ∀ b ∈ l, byteRow b) (k : Nat) : byteRow (l.take k).flatten := by
  intro c hc
  obtain ⟨b, hb, hcb⟩ := List.mem_flatten.mp hc
  exact h b (List.mem_of_mem_take hb) c hcb
theorem C_nil (w : World) : Kd.C (Kd.int .u8) w none 0 [] := ⟨rfl, by decide, fun h => absurd h (by decide)⟩
theorem nats_app (a b : List Int) : nats (a ++ b) = nats a ++ nats b := by unfold nats; rw [List.map_append]
theorem crc_Sum.madeP (A0 : Option Addr) (c0 n : Nat) (l0 : List Int) (hn : l0.length = n) (s : Nat) (hs : M.sum (nats l0) = s) (w : World) (hr0 : Kd.C (Kd.int .u8) w A0 n l0) (hc0 : n ≤ c0) (hb : byteRow l0) :
    Calls Try.prog 21 #[tabV true, .slice A0 n c0] w fun e w' => e = .returned (.int .u32 (s : Int)) ∧ Below w.heap.size w w' := by
  subst hn
  have := crc_Sum.calls true A0 c0 l0 w hr0 hc0 hb
  rw [moreN_true, M.sum_more, hs] at this
  exact this
theorem crc_More.madeP (x s : Nat) (hx : x < 4294967296) (A0 : Option Addr) (c0 n : Nat) (l0 : List Int) (hn : l0.length = n) (hs : M.more x (nats l0) = s) (w : World) (hr0 : Kd.C (Kd.int .u8) w A0 n l0) (hc0 : n ≤ c0) (hb : byteRow l0) :
    Calls Try.prog 23 #[tabV true, .int .u32 (x : Int), .slice A0 n c0] w fun e w' => e = .returned (.int .u32 (s : Int)) ∧ Below w.heap.size w w' := by
  subst hn
  have := crc_More.calls true x hx A0 c0 l0 w hr0 hc0 hb
  rw [moreN_true, hs] at this
  exact this
set_option maxHeartbeats 8000000 in
set_option maxRecDepth 100000 in
theorem antiphonlaw2_CrcParts.calls (A0 : Option Addr) (c0 : Nat) (l0 : List (List Int)) (r : Bool) (w : World) (hr0 : Kd.C (Kd.slice 5 (Kd.int .u8)) w A0 l0.length l0) (hc0 : l0.length ≤ c0) (h : antiphonlaw2_CrcParts.f l0 = some r) :
    Calls Try.prog 5 #[.slice A0 l0.length c0] w fun e w' => e = .returned (.bool r) ∧ Below w.heap.size w w' := by
  obtain ⟨rfl, hb⟩ := parts_open h
  clear h
  have HB := Aside0.mk (Below.refl w.heap.size w)
  have HR := Aside0.mk hr0
  have HBY := Aside0.mk hb
  have hm0 : l0.length ≤ 9223372036854775807 := hr0.2.1
  by_cases hl : l0.length ≤ 60
  case neg =>
    have d1 : decide ((60 : Int) < (l0.length : Int)) = true := decide_eq_true (by omega)
    clear hr0 hc0 hb hl
    go_enter Try.func5, Try.ntmps5
    go_wp2_with fail
    refine (antiphonlaw2_awake.calls true _ rfl).mono ?_
    rintro e wa ⟨rfl, hB⟩
    have hS := (show Below w.heap.size w wa from below_step (by repeat (first | with_reducible exact Below.refl _ _ | with_reducible apply below_drew1 | with_reducible apply pw_below_drewN | with_reducible apply below_alloc)) hB)
    replace HR := Aside0.mk (Kd.C_below HR.out hS)
    replace HB := Aside0.mk (below_step HB.out hS)
    clear hS hB
    go_wp2_with fail
    go_ret
    exact ⟨rfl, HB.out⟩
  have d1 : decide ((60 : Int) < (l0.length : Int)) = false := decide_eq_false (by omega)
  have HR0 := Aside0.mk hr0
  have S0 : Aside0 (moreN true 0 (nats []) = 0) := ⟨by decide +kernel⟩
  clear hr0 hc0 hb HR
  go_enter Try.func5, Try.ntmps5
  go_wp2_with fail
  refine (antiphonlaw2_awake.calls true _ rfl).mono ?_
  rintro e wa ⟨rfl, hB⟩
  have hS := (show Below w.heap.size w wa from below_step (by repeat (first | with_reducible exact Below.refl _ _ | with_reducible apply below_drew1 | with_reducible apply pw_below_drewN | with_reducible apply below_alloc)) hB)
  replace HB := Aside0.mk (below_step HB.out hS)
  clear hS hB
  go_wp2_with fail
  refine (crc_Make.calls _).mono ?_
  rintro e w1 ⟨rfl, hB⟩
  have hS := (show Below wa.heap.size wa w1 from below_step (by repeat (first | with_reducible exact Below.refl _ _ | with_reducible apply below_drew1 | with_reducible apply pw_below_drewN | with_reducible apply below_alloc)) hB)
  replace HB := Aside0.mk (below_step HB.out hS)
  clear hS hB
  go_wp2_with (first
    | (refine wpList_store_tab rfl (.tmp 3) (.tmp 12) rfl w1.heap.size rfl true rfl Try.zeroCells27 (blk_new w1 _) zsz27 ?_; intro w2 hI hG; have hS := (show Below w1.heap.size w1 w2 from (below_alloc (Below.refl _ _) _).grown hG (below_alloc (Below.refl _ _) _).size (fun k hk => by cases hk; exact Nat.le_refl _)); have HG := Aside0.mk (HB.out.size); replace HB := Aside0.mk (below_step HB.out hS); generalize w1.heap.size = g at hI HG ⊢; have HI := Aside0.mk hI; clear hI hG hS)
    | (refine wpList_load_row rfl 27 (.tmp 3) rfl g rfl 27 (tabRow true) (0, 0) _ (HI.out.below (by repeat (first | with_reducible exact Below.refl _ _ | with_reducible apply below_drew1 | with_reducible apply pw_below_drewN | with_reducible apply below_alloc))) Try.underlying27 rfl (tabInf true) ?_))
  refine (crc_Sum.calls true none 0 [] _ (C_nil _) (by decide) (by unfold byteRow; decide)).mono ?_
  rintro e w3 ⟨rfl, hB⟩
  have hS := (show Below w2.heap.size w2 w3 from below_step (by repeat (first | with_reducible exact Below.refl _ _ | with_reducible apply below_drew1 | with_reducible apply pw_below_drewN | with_reducible apply below_alloc)) hB)
  replace HI := Aside0.mk (HI.out.below hS)
  replace HB := Aside0.mk (below_step HB.out hS)
  rw [S0.out]
  clear hS hB
  go_wp2_with fail
  go_loopw [4, 5, 6] (fun v4 v5 v6 wr => ∃ k : Nat, k ≤ l0.length ∧ v6 = .int .i64 k ∧ v5 = .int .u32 ((M.sum (nats (l0.take k).flatten) : Nat) : Int) ∧ Aside0 ((l0.take k).flatten.length ≤ 200 * k) ∧ Aside0 (Kd.R (Kd.int .u8) 5 wr w.heap.size (fun _ => True) v4 (l0.take k).flatten) ∧ Aside0 (Below w.heap.size w wr) ∧ Aside0 (IsTab true wr g)) (fun _ _ v6 _ => l0.length - (intOf v6).toNat)
  case atStart => exact ⟨0, Nat.zero_le _, rfl, by rw [show M.sum (nats (l0.take 0).flatten) = 0 by show M.sum (nats []) = 0; decide +kernel]; rfl, ⟨Nat.zero_le _⟩, ⟨Kd.R_nil _ _ _ _ _⟩, HB, HI⟩
  case round =>
    clear HB HI
    obtain ⟨k, hk, rfl, rfl, HLN, HX, HB, HI⟩ := hrel
    have hs : M.sum (nats (l0.take k).flatten) < 4294967296 := M.sum_lt (nats_lt (flat_byte HBY.out k))
    by_cases hlt : k < l0.length
    · obtain ⟨ad, Ab, cb, e0, hxw, hcb, hCb⟩ := at_L1 HR0.out (k : Int) (by omega) (by omega)
      cases e0
      rw [Int.toNat_natCast] at hxw
      have hft := flat_take hlt
      have hbb := HBY.out _ (rd_mem hlt)
      generalize rd_L1 l0 (k : Int) = b at hxw hcb hCb hft hbb
      have HXW := Aside0.mk (fun (W : World) (hW : Below w.heap.size w W) => (hW.cell (World.block_lt_of_cell? w _ hxw)).trans hxw)
      clear hxw
      have hx0 := HXW.out _ HB.out
      have HFT := Aside0.mk hft
      have HBB := Aside0.mk hbb
      have HCB := Aside0.mk hCb
      have Hcb := Aside0.mk hcb
      have hbl : b.length ≤ 9223372036854775807 := hCb.2.1
      clear hft hbb hCb hcb
      by_cases hb2 : b.length ≤ 200
      case neg =>
        have d2 : decide ((200 : Int) < (b.length : Int)) = true := decide_eq_true (by omega)
        clear hb2
        go_wp2_with fail
        go_ret
        exact ⟨rfl, HB.out⟩
      have d2 : decide ((200 : Int) < (b.length : Int)) = false := decide_eq_false (by omega)
      have HL2 := Aside0.mk hb2
      generalize hF : (l0.take k).flatten = F at hs HLN HX HFT
      have HF := Aside0.mk hF
      clear hF
      have HS2 := Aside0.mk (show M.sum (nats (F ++ b)) < 4294967296 from M.sum_lt (nats_lt (by rw [← HFT.out]; exact flat_byte HBY.out (k + 1))))
      have HMO := Aside0.mk (crc_More.madeP (M.sum (nats F)) (M.sum (nats (F ++ b))) hs Ab cb b.length b rfl (by rw [nats_app]; exact M.more_append 0 _ _))
      have HBF := Aside0.mk (show byteRow (F ++ b) by rw [← HFT.out]; exact flat_byte HBY.out (k + 1))
      have HMN := Aside0.mk (crc_More.madeP (M.sum (nats (F ++ b))) (M.sum (nats (F ++ b))) HS2.out none 0 0 [] rfl (M.more_nil _))
      have HSA := Aside0.mk (crc_Sum.madeP · · (F ++ b).length (F ++ b) rfl (M.sum (nats (F ++ b))) rfl)
      generalize M.sum (nats F) = sF at hs HMO
      have HGL := Aside0.mk (show (F ++ b).length ≤ 200 * (k + 1) by rw [List.length_append]; have := HLN.out; have := HL2.out; omega)
      generalize hG : F ++ b = G at HFT HS2 HMO HBF HMN HSA HGL
      have HG_ := Aside0.mk hG
      clear hG
      have hkk : k ≤ 60 := by omega
      go_wp2_with (at_builtin; refine Kd.R_append_rows (Kd.int .u8) (w0 := w) w.heap.size rfl (.tmp 27) (.tmp 31) 22 5 (.int .u8 0) 1 rfl Try.underlying22 info5 rfl (by decide) (by omega) u4 F b Ab b.length cb (fun _ => True) (fun _ => False) rfl rfl HX.out (Kd.C_below HCB.out HB.out) (fun _ _ h => h) (fun _ h => h.elim) (fun _ _ => trivial) HB.out HB.out.size (by have := HLN.out; have := HL2.out; omega) ?_; intro v7 w7 ho hb hg hat; rw [HG_.out] at ho; have HO7 := Aside0.mk ho; have HB7 := Aside0.mk hb; replace HI := Aside0.mk (HI.out.grown hg (Kd.R_ne HX.out HI.out (by decide))); replace HB := HB7; clear HB7 ho hb hg hat)
      replace HX := HO7
      clear HO7 hx0
      have HCX := Aside0.mk (C_nil w)
      refine start_ (n := 8) (S := fun w' => IsTab true w' g ∧ w'.cell? (ad.add k) = some (.slice Ab b.length cb)) (ds := []) #[false, false, false, false, false, false, false, false] (by kernel_rfl) rfl rfl ⟨(HI.out.below (by repeat (first | with_reducible exact Below.refl _ _ | with_reducible apply below_drew1 | with_reducible apply pw_below_drewN | with_reducible apply below_alloc))), (HXW.out _ (below_drew1 HB.out))⟩ (fun hHeld => ?_)
      refine pure_ (i := 1) (N := some 34) (v := ?_) (a' := ?_) #[false, true, false, false, false, false, false, false] rfl rfl (by kernel_rfl) (fun _ _ _ h => h) (Or.inl ⟨by rfl, ?_⟩) ?_ ?_
      rotate_left
      · intro w'
        go_simp
        with_reducible rfl
      rotate_left
      · simp only [Act.put, List.setIfInBounds_toArray, List.set_cons_zero, List.set_cons_succ, i64_w, i32_w]
        rfl
      refine pure_ (i := 2) (N := some 35) (v := ?_) (a' := ?_) #[false, true, true, false, false, false, false, false] rfl rfl (by kernel_rfl) (fun _ _ _ h => h) (Or.inl ⟨by rfl, ?_⟩) ?_ ?_
      rotate_left
      · intro w'
        go_simp
        with_reducible rfl
      rotate_left
      · simp only [Act.put, List.setIfInBounds_toArray, List.set_cons_zero, List.set_cons_succ, i64_w, i32_w]
        rfl
      refine pure_ (i := 3) (N := some 36) (v := ?_) (a' := ?_) #[false, true, true, true, false, false, false, false] rfl rfl (by kernel_rfl) (fun _ _ _ h => h) (Or.inl ⟨by rfl, ?_⟩) ?_ ?_
      rotate_left
      · intro w'
        go_simp
        with_reducible rfl
      rotate_left
      · simp only [Act.put, List.setIfInBounds_toArray, List.set_cons_zero, List.set_cons_succ, i64_w, i32_w]
        rfl
      refine pure_ (i := 4) (N := some 37) (v := ?_) (a' := ?_) #[false, true, true, true, true, false, false, false] rfl rfl (by kernel_rfl) (fun _ _ _ h => h) (Or.inl ⟨by rfl, ?_⟩) ?_ ?_
      rotate_left
      · intro w'
        go_simp
        with_reducible rfl
      rotate_left
      · simp only [Act.put, List.setIfInBounds_toArray, List.set_cons_zero, List.set_cons_succ, i64_w, i32_w]
        rfl
      refine take_ (i := 0) (N := some 33) (v := tabV true) #[true, true, true, true, true, false, false, false] rfl rfl (by kernel_rfl) (fun _ _ _ h => h) ?_ hHeld rfl ?_
      · exact yields_tab (by rfl) _ rfl _ rfl true (by rintro w' ⟨s0, s1⟩; exact s0)
      refine norm_ (a' := ?_) ?_ ?_
      rotate_left
      · show Act.put _ (some 33) _ = _
        simp only [Act.put, List.setIfInBounds_toArray, List.set_cons_zero, List.set_cons_succ, i64_w, i32_w]
        rfl
      refine take_ (i := 5) (N := some 38) (v := ?_) (a' := ?_) #[true, true, true, true, true, true, false, false] rfl rfl (by kernel_rfl) (fun _ _ _ h => h) (Or.inl ⟨by rfl, ?_⟩) hHeld ?_ ?_
      rotate_left
      · rintro w' ⟨s0, s1⟩
        go_simp
        with_reducible rfl
      rotate_left
      · simp only [Act.put, List.setIfInBounds_toArray, List.set_cons_zero, List.set_cons_succ, i64_w, i32_w]
        rfl
      refine one_ (i := 6) (N := some 39) #[true, true, true, true, true, true, true, false] rfl rfl (by kernel_rfl) (by decide) (fun K hK => ?_)
      refine goes_ Try.func23 (by kernel_rfl) rfl #[tabV true, .int .u32 (sF : Int), .slice Ab b.length cb] (by rfl) rfl rfl (by simp only [List.map_toArray, List.map_cons, List.map_nil]; rfl) ?_
      refine (HMO.out _ (Kd.C_below HCB.out (below_drew1 HB.out)) Hcb.out HBB.out).mono ?_
      rintro e w8 ⟨rfl, hB⟩
      refine ⟨_, rfl, ?_⟩
      have hS := (show Below w7.heap.size w7 w8 from below_step (by repeat (first | with_reducible exact Below.refl _ _ | with_reducible apply below_drew1 | with_reducible apply pw_below_drewN | with_reducible apply below_alloc)) hB)
      replace HX := Aside0.mk (Kd.R_below HX.out hS)
      replace HI := Aside0.mk (HI.out.below hS)
      replace HB := Aside0.mk (below_step HB.out hS)
      clear hS hB
      refine hK.out _ _ ⟨HI.out, (HXW.out _ HB.out)⟩ (fun hHeld => ?_)
      clear hK K
      refine norm_ (a' := ?_) ?_ ?_
      rotate_left
      · show Act.put _ (some 39) _ = _
        simp only [Act.put, List.setIfInBounds_toArray, List.set_cons_zero, List.set_cons_succ, i64_w, i32_w]
        rfl
      refine pure_ (i := 7) (N := some 5) (v := ?_) (a' := ?_) #[true, true, true, true, true, true, true, true] rfl rfl (by kernel_rfl) (fun _ _ _ h => h) (Or.inl ⟨by rfl, ?_⟩) ?_ ?_
      rotate_left
      · intro w'
        go_simp
        with_reducible rfl
      rotate_left
      · simp only [Act.put, List.setIfInBounds_toArray, List.set_cons_zero, List.set_cons_succ, i64_w, i32_w]
        rfl
      refine done_ (by kernel_rfl) ?_
      go_wp2_with fail
      refine wp_load_row 27 (.tmp 3) rfl g rfl 27 (tabRow true) (0, 0) _ (HI.out.below (by repeat (first | with_reducible exact Below.refl _ _ | with_reducible apply below_drew1 | with_reducible apply pw_below_drewN | with_reducible apply below_alloc))) Try.underlying27 rfl (tabInf true) ?_
      go_wp2_with fail
      refine (HMN.out _ (C_nil _) (by decide) (by unfold byteRow; decide)).mono ?_
      rintro e w9 ⟨rfl, hB⟩
      have hS := (show Below w8.heap.size w8 w9 from below_step (by repeat (first | with_reducible exact Below.refl _ _ | with_reducible apply below_drew1 | with_reducible apply pw_below_drewN | with_reducible apply below_alloc)) hB)
      replace HX := Aside0.mk (Kd.R_below HX.out hS)
      replace HI := Aside0.mk (HI.out.below hS)
      replace HB := Aside0.mk (below_step HB.out hS)
      clear hS hB
      go_wp2_with fail
      refine wp_load_row 27 (.tmp 3) rfl g rfl 27 (tabRow true) (0, 0) _ (HI.out.below (by repeat (first | with_reducible exact Below.refl _ _ | with_reducible apply below_drew1 | with_reducible apply pw_below_drewN | with_reducible apply below_alloc))) Try.underlying27 rfl (tabInf true) ?_
      obtain ⟨Aq, cq, rfl⟩ := Kd.R_slice HX.out
      have hCX := Kd.R_reads HX.out
      obtain ⟨Aq_, cq_, heq, hcq, hCq⟩ := hCX
      injection heq with h1_ h2_ h3_
      subst h1_
      subst h3_
      have HCQ := Aside0.mk hCq
      have Hcq := Aside0.mk hcq
      clear hCq hcq h2_
      go_wp2_with fail
      refine (HSA.out Aq cq _ HCQ.out Hcq.out HBF.out).mono ?_
      rintro e wx ⟨rfl, hB⟩
      have hS := (show Below w9.heap.size w9 wx from below_step (by repeat (first | with_reducible exact Below.refl _ _ | with_reducible apply below_drew1 | with_reducible apply pw_below_drewN | with_reducible apply below_alloc)) hB)
      replace HX := Aside0.mk (Kd.R_below HX.out hS)
      replace HI := Aside0.mk (HI.out.below hS)
      replace HB := Aside0.mk (below_step HB.out hS)
      clear hS hB
      go_wp2_with fail
      refine ⟨⟨k + 1, by omega, by go_num, by rw [HFT.out], ⟨by rw [HFT.out]; exact HGL.out⟩, ⟨by rw [HFT.out]; exact HX.out⟩, HB, HI⟩, by simp [intOf]; omega⟩
    · obtain rfl : k = l0.length := by omega
      rw [List.take_length] at hs HLN HX ⊢
      have HBF := Aside0.mk (show byteRow l0.flatten by have := flat_byte HBY.out l0.length; rw [List.take_length] at this; exact this)
      generalize l0.flatten = G at hs HLN HX HBF ⊢
      obtain ⟨Aq, cq, rfl, hcq, hCq⟩ := Kd.R_reads HX.out
      have HCQ := Aside0.mk hCq
      have Hcq := Aside0.mk hcq
      clear hCq hcq HX
      go_wp2_with fail
      refine (crc_Slow.calls Aq cq G _ HCQ.out Hcq.out HBF.out).mono ?_
      rintro e w8 ⟨rfl, hB⟩
      have hS := (show Below wr.heap.size wr w8 from below_step (by repeat (first | with_reducible exact Below.refl _ _ | with_reducible apply below_drew1 | with_reducible apply pw_below_drewN | with_reducible apply below_alloc)) hB)
      replace HB := Aside0.mk (below_step HB.out hS)
      clear hS hB
      go_wp2_with fail
      go_ret
      exact ⟨rfl, HB.out⟩
end Go.Proofs.Ytpalloofjljhkaa.P
