/- The reference's sums, and the first test of the laws of chapter 2. No condition but that bytes are bytes, and that there is room. -/
import Derived.Test.YtpalloofjljhkaaSeal
import Derived.Test.YtpalloofjljhkaaPx23
import Derived.Test.YtpalloofjljhkaaPx26
import Derived.Lib.SlBytesConst
namespace Go.Proofs.Ytpalloofjljhkaa.P
open Go.RowKit Go.Proofs.Ytpalloofjljhkaa.Lib Go.Proofs.YtpalloofjljhkaaW.PrintWords Go.Proofs.YtpalloofjljhkaaW.PrintLast Go.Proofs.YtpalloofjljhkaaW.PrintMore
set_option linter.unusedVariables false
set_option linter.unusedSimpArgs false
/-- A row of bytes that lies in a block of its own. -/
theorem lit_C {W : World} {g : Nat} {e : TypeId} {fr : Nat × Nat} {xs : List Int} {cs : Array Value} (h : W.heap[g]? = some (.cells cs e fr)) (hcs : cs = (xs.map (Value.int .u8)).toArray) (hl : xs.length ≤ 9223372036854775807) : Kd.C (Kd.int .u8) W (some ⟨g, 0, none⟩) xs.length xs := by
  subst hcs
  refine Kd.C_of_reads (d := (0 : Int)) (h1 := fun _ => rfl) ⟨rfl, hl, fun _ => ⟨⟨g, 0, none⟩, rfl, fun j hj => ?_⟩⟩
  have ha : (Addr.add ⟨g, 0, none⟩ j) = ⟨g, j, none⟩ := by unfold Addr.add; split <;> simp_all
  rw [ha]
  refine (cell_of_row W g j _ e fr h).trans ?_
  rw [List.getD_eq_getElem?_getD, List.getElem?_eq_getElem hj]
  simp [hj]
theorem same_any {a b : List Int} (hl : a.length < 9223372036854775807) : antiphonref1_Same.f (a.length + 1) a b = some (decide (a = b)) := same_ref a b hl 0
theorem copy_any {a : List Int} (hl : a.length ≤ 140737488355328) : antiphonref1_Copy.f (a.length + 1) a = some a := copy_ref a hl 0
set_option maxHeartbeats 4000000 in
set_option maxRecDepth 100000 in
theorem ref_Sum.calls (A0 : Option Addr) (c0 : Nat) (l0 : List Int) (w : World) (hr0 : Kd.C (Kd.int .u8) w A0 l0.length l0) (hc0 : l0.length ≤ c0) (hb : byteRow l0) :
    Calls Try.prog 28 #[.slice A0 l0.length c0] w fun e w' => e = .returned (.int .u32 ((M.sum (nats l0) : Nat) : Int)) ∧ w = w' := by
  have HC := Aside0.mk (ref_More.calls 0 (by decide) A0 c0 l0 w hr0 hc0 hb)
  clear hr0 hc0 hb
  go_enter Try.func28, Try.ntmps28
  go_wp2_with (go_at_call 53; refine HC.out.mono ?_; rintro e w2 ⟨rfl, rfl⟩)
  go_ret
  exact ⟨rfl, rfl⟩
theorem laidI_cells (s : Nat) (hs : s < 4294967296) : (#[.int .u8 ((s : Int) % 256), .int .u8 ((s : Int) / 256 % 256), .int .u8 ((s : Int) / 65536 % 256), .int .u8 ((s : Int) / 16777216)] : Array Value) = ((laidI s).map (Value.int .u8)).toArray := by
  have h : (s : Int) / 16777216 = (s : Int) / 16777216 % 256 := by omega
  rw [h]
  simp [laidI, M.laid]
set_option maxHeartbeats 4000000 in
set_option maxRecDepth 100000 in
theorem ref_Seal.calls (A0 : Option Addr) (c0 : Nat) (l0 : List Int) (w : World) (hr0 : Kd.C (Kd.int .u8) w A0 l0.length l0) (hc0 : l0.length ≤ c0) (hb : byteRow l0) (hl : l0.length < 140737488355000) :
    Calls Try.prog 30 #[.slice A0 l0.length c0] w fun e w' => ∃ v0_ : Value, e = .returned (v0_) ∧ Kd.R (Kd.int .u8) 5 w' w.heap.size (fun _ => True) v0_ (sealI l0) ∧ Below w.heap.size w w' := by
  have HR := Aside0.mk hr0
  have HC := Aside0.mk hc0
  have HBY := Aside0.mk hb
  have HL := Aside0.mk hl
  have hs : M.sum (nats l0) < 4294967296 := M.sum_lt (nats_lt hb)
  have HCP := Aside0.mk (copy_any (a := l0) (by omega))
  have HSL := Aside0.mk (show sealI l0 = l0 ++ laidI (M.sum (nats l0)) from rfl)
  have HS := Aside0.mk (ref_Sum.calls A0 c0 l0 w hr0 hc0 hb)
  generalize M.sum (nats l0) = s at hs HSL HS
  clear hr0 hc0 hb hl
  go_enter Try.func30, Try.ntmps30
  go_wp2_with (first
    | (go_at_call 28; refine HS.out.mono ?_; rintro e w2 ⟨rfl, rfl⟩)
    | (go_at_call 22; refine (antiphonref1_Copy.calls _ _ _ _ _ _ HR.out HC.out HCP.out).mono ?_; rintro e w2 ⟨v2, rfl, hR2, hB2⟩; have HR2 := Aside0.mk hR2; have HB2 := Aside0.mk hB2; clear hR2 hB2)
    | (at_builtin; refine Kd.R_append_rows (Kd.int .u8) (w0 := w) w.heap.size rfl (.tmp 7) (.tmp 19) 22 5 (.int .u8 0) 1 rfl Try.underlying22 info5 rfl (by decide) (by omega) v2 l0 (laidI s) (some ⟨w2.heap.size, 0, none⟩) 4 4 (fun _ => True) (fun _ => False) rfl rfl (Kd.R_alloc HR2.out _) (lit_C (blk_new w2 _) (laidI_cells s hs) (by rw [laidI_len]; decide)) (fun _ _ h => h) (fun _ h => h.elim) (fun _ _ => trivial) (below_alloc HB2.out _) (below_alloc HB2.out _).size (by have := HL.out; omega) ?_; intro v4 w4 ho hb hg hat; have HO4 := Aside0.mk ho; have HB4 := Aside0.mk hb; clear ho hb hg hat))
  go_ret
  exact ⟨_, rfl, by rw [HSL.out]; exact HO4.out, HB4.out⟩
theorem seal_take (l : List Int) (m : Nat) (hm : l.length = m + 4) : (decide (sealI (l.take m) = l)) = openB l := by
  have h4 : ¬ l.length < 4 := by omega
  unfold openB
  rw [if_neg h4, show l.length - 4 = m by omega]
  unfold sealI
  congr 1
  conv => lhs; rhs; rw [← List.take_append_drop m l]
  rw [List.append_cancel_left_eq]
  exact propext ⟨fun h => h.symm, fun h => h.symm⟩
set_option maxHeartbeats 4000000 in
set_option maxRecDepth 100000 in
theorem ref_Open.calls (A0 : Option Addr) (c0 : Nat) (l0 : List Int) (w : World) (hr0 : Kd.C (Kd.int .u8) w A0 l0.length l0) (hc0 : l0.length ≤ c0) (hb : byteRow l0) (hl : l0.length < 140737488355000) :
    Calls Try.prog 29 #[.slice A0 l0.length c0] w fun e w' => ∃ v0_ : Value, e = .returned (.tuple #[v0_, .bool (openB l0)]) ∧ Kd.R (Kd.int .u8) 5 w' w.heap.size (fun _ => True) v0_ (openL l0) ∧ Below w.heap.size w w' := by
  have HB := Aside0.mk (Below.refl w.heap.size w)
  by_cases h4 : l0.length < 4
  · have d4 : decide ((l0.length : Int) < 4) = true := decide_eq_true (by omega)
    have d5 : decide (l0.length < 4) = true := decide_eq_true h4
    have hob : openB l0 = false := by unfold openB; rw [if_pos h4]
    have hol : openL l0 = [] := by unfold openL; rw [hob]; rfl
    rw [hob, hol]
    clear hob hol
    go_enter Try.func29, Try.ntmps29
    go_wp2_with fail
    go_ret2
    exact ⟨_, rfl, Kd.R_nil _ _ _ _ _, HB.out⟩
  obtain ⟨m, hm⟩ : ∃ m, l0.length = m + 4 := ⟨l0.length - 4, by omega⟩
  have ht : (l0.take m).length = m := by rw [List.length_take]; omega
  have hbt : byteRow (l0.take m) := fun c hc => hb c (List.mem_of_mem_take hc)
  have HOL := Aside0.mk (show openL l0 = if openB l0 then l0.take m else [] by unfold openL; rw [show l0.length - 4 = m by omega])
  obtain ⟨i0, hi, hz0, hz1, hz2⟩ := info_parts info5
  have q1 := cut_to 22 5 .i64 (P := Try.prog) Try.underlying22 hi A0 l0.length c0 (m : Int) (by omega) (by omega) hc0
  rw [Int.toNat_natCast] at q1
  have hT := Kd.C_take hr0 (show m ≤ l0.length by omega)
  rw [ht] at hT
  have HTK := Aside0.mk hT
  have HR := Aside0.mk hr0
  have HC := Aside0.mk hc0
  have HC0 := Aside0.mk (show m ≤ c0 by omega)
  have HSE := Aside0.mk (ref_Seal.calls A0 c0 (l0.take m))
  rw [ht] at HSE
  have HCP := Aside0.mk (antiphonref1_Copy.calls (m + 1) A0 c0 (l0.take m) (l0.take m))
  rw [ht] at HCP
  have HCF := Aside0.mk (show antiphonref1_Copy.f (m + 1) (l0.take m) = some (l0.take m) by have := copy_any (a := l0.take m) (by omega); rw [ht] at this; exact this)
  have HSF := Aside0.mk (show antiphonref1_Same.f (m + 4 + 1) (sealI (l0.take m)) l0 = some (openB l0) by
    have := same_any (a := sealI (l0.take m)) (b := l0) (by unfold sealI; rw [List.length_append, laidI_len]; omega)
    rw [seal_take l0 m hm] at this
    rw [show m + 4 + 1 = (sealI (l0.take m)).length + 1 by unfold sealI; rw [List.length_append, laidI_len]; omega]
    exact this)
  have hmi : (l0.length : Int) - 4 = (m : Int) := by omega
  have d4 : decide ((l0.length : Int) < 4) = false := decide_eq_false (by omega)
  have d5 : decide (l0.length < 4) = false := decide_eq_false h4
  have HBT := Aside0.mk hbt
  have hml : m < 140737488355000 := by omega
  rw [HOL.out]
  generalize openB l0 = b at HSF
  clear hr0 hc0 hb hl h4 ht hbt hT hi hz0 hz1 hz2 HOL hm
  cases b with
  | false =>
    go_enter Try.func29, Try.ntmps29
    go_wp2_with (first
      | (go_at_call 30; refine (HSE.out _ HTK.out HC0.out HBT.out hml).mono ?_; rintro e w2 ⟨v2, rfl, hR2, hB2⟩; obtain ⟨A2, c2, rfl, hc2, hC2⟩ := Kd.R_reads hR2; have HC2 := Aside0.mk hC2; have Hc2 := Aside0.mk hc2; have HB2 := Aside0.mk hB2; clear hR2 hB2 hC2 hc2)
      | (go_at_call 25; refine (antiphonref1_Same.calls _ _ _ _ _ _ _ _ _ HC2.out Hc2.out (Kd.C_below HR.out HB2.out) HC.out HSF.out).mono ?_; rintro e w3 ⟨rfl, hd3⟩; have HB3 := Aside0.mk (below_step HB2.out (Drawn0.below hd3)); clear hd3)
      | (go_at_call 22; refine (HCP.out _ (Kd.C_below HTK.out HB3.out) HC0.out HCF.out).mono ?_; rintro e w5 ⟨v5, rfl, hR5, hB5⟩; have HR5 := Aside0.mk (Kd.R_lower hR5 HB3.out.size); have HB5 := Aside0.mk (below_step HB3.out hB5); clear hR5 hB5))
    go_ret2
    exact ⟨_, rfl, Kd.R_nil _ _ _ _ _, HB3.out⟩
  | true =>
    go_enter Try.func29, Try.ntmps29
    go_wp2_with (first
      | (go_at_call 30; refine (HSE.out _ HTK.out HC0.out HBT.out hml).mono ?_; rintro e w2 ⟨v2, rfl, hR2, hB2⟩; obtain ⟨A2, c2, rfl, hc2, hC2⟩ := Kd.R_reads hR2; have HC2 := Aside0.mk hC2; have Hc2 := Aside0.mk hc2; have HB2 := Aside0.mk hB2; clear hR2 hB2 hC2 hc2)
      | (go_at_call 25; refine (antiphonref1_Same.calls _ _ _ _ _ _ _ _ _ HC2.out Hc2.out (Kd.C_below HR.out HB2.out) HC.out HSF.out).mono ?_; rintro e w3 ⟨rfl, hd3⟩; have HB3 := Aside0.mk (below_step HB2.out (Drawn0.below hd3)); clear hd3)
      | (go_at_call 22; refine (HCP.out _ (Kd.C_below HTK.out HB3.out) HC0.out HCF.out).mono ?_; rintro e w5 ⟨v5, rfl, hR5, hB5⟩; have HR5 := Aside0.mk (Kd.R_lower hR5 HB3.out.size); have HB5 := Aside0.mk (below_step HB3.out hB5); clear hR5 hB5))
    go_ret2
    exact ⟨_, rfl, HR5.out, HB5.out⟩
theorem zsz27 : Try.zeroCells27.size = 256 := by rw [zero27]; exact mkRow_size 0
/-- A known sum: the laws' own first test, true. -/
def nine : List Int := [49, 50, 51, 52, 53, 54, 55, 56, 57]
theorem nine_byte : byteRow nine := by unfold byteRow nine; decide
theorem nine_sum : M.sum (nats nine) = 3421780262 := by decide +kernel
def antiphonlaw2_awake.f : Option Bool := some true
set_option maxHeartbeats 4000000 in
set_option maxRecDepth 100000 in
theorem antiphonlaw2_awake.calls (r : Bool) (w : World) (h : antiphonlaw2_awake.f = some r) :
    Calls Try.prog 19 #[] w fun e w' => e = .returned (.bool r) ∧ Below w.heap.size w w' := by
  obtain rfl := Option.some.inj h
  have HSUM : Aside0 (moreN true 0 (nats nine) = 3421780262) := ⟨by rw [moreN_true]; exact nine_sum⟩
  have kc := fun (w : World) (C : Array Value) (n c : Nat) => Go.Lib.run_convert_bytes_const (P := Try.prog) w 22 5 C n c Try.underlying22 Try.underlying5
  go_enter Try.func19, Try.ntmps19
  go_wp2_with (first
    | (go_at_call 20; refine (crc_Make.calls _).mono ?_; rintro e w1 ⟨rfl, hB⟩; have HB1 := Aside0.mk hB; clear hB)
    | (refine wpList_store_tab rfl (.tmp 1) (.tmp 2) rfl w1.heap.size rfl true rfl Try.zeroCells27 (blk_new w1 _) zsz27 ?_; intro w2 hI hG; have HI := Aside0.mk hI; have HB2 := Aside0.mk ((below_alloc HB1.out _).grown hG (below_alloc HB1.out _).size (fun k hk => by cases hk; exact HB1.out.size)); clear hI hG)
    | (refine wpList_load_row rfl 27 (.tmp 1) rfl w1.heap.size rfl 27 (tabRow true) (0, 0) _ HI.out Try.underlying27 rfl (tabInf true) ?_)
    | (go_at_call 21; refine (crc_Sum.calls true _ _ nine _ (lit_C (blk_new w2 _) rfl (by decide)) (by decide) nine_byte).mono ?_; rintro e w3 ⟨rfl, hB⟩; rw [HSUM.out]; have HB3 := Aside0.mk (below_step (below_alloc HB2.out _) hB); clear hB))
  go_ret
  exact ⟨rfl, HB3.out⟩
end Go.Proofs.Ytpalloofjljhkaa.P
