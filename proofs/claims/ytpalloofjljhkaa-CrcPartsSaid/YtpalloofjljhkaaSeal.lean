/- A sum behind bytes, and off them again: the contracts of Seal and Open. No condition but that bytes are bytes, and that there is room. -/
import Derived.Test.YtpalloofjljhkaaTab
import Derived.Test.YtpalloofjljhkaaOLib
import Derived.Lib.Bytes
namespace Go.Proofs.Ytpalloofjljhkaa.P
open Go.RowKit Go.Proofs.Ytpalloofjljhkaa.Lib Go.Proofs.YtpalloofjljhkaaW.PrintWords Go.Proofs.YtpalloofjljhkaaW.PrintLast Go.Proofs.YtpalloofjljhkaaW.PrintMore
set_option linter.unusedVariables false
set_option linter.unusedSimpArgs false

theorem yields_tab {ops : Array Oper} {S : World → Prop} {op : Oper} {a : Act} (hw : Region.wanted op (yielded ops a.tmps) = true) (x : Operand) (ho : op.op = .load 27 x)
    (g : Nat) (hx : a.eval x = .pointer (some ⟨g, 0, none⟩)) (t : Bool) (hS : ∀ w, S w → IsTab t w g) : YieldsIf Try.prog ops S op (tabV t) a :=
  .inl ⟨hw, fun w hw' => by
    unfold execOp
    simp only [ho, hx, Instr.loadAt, Instr.sureAddr, Sem.run_bind, Sem.run_pure, Result.andThen_ok, run_loadVar_row w g 27 27 (tabRow t) (0, 0) _ (hS w hw') Try.underlying27 rfl (tabInf t)]⟩
theorem IsTab.grown {t : Bool} {W W1 : World} {g : Nat} {row : Option Nat} (h : IsTab t W g) (hg : W.grownBy W1 row) (hne : some g ≠ row) : IsTab t W1 g := (hg.block g (blk_lt h) hne).trans h
theorem IsTab.drew1 {t : Bool} {W : World} {g : Nat} (h : IsTab t W g) : IsTab t W.drew g := h
/-- A sum's bytes, the lowest first. -/
def laidI (s : Nat) : List Int := (M.laid s).map fun (n : Nat) => (n : Int)
theorem laidI_byte (s : Nat) : byteRow (laidI s) := by
  intro c hc
  obtain ⟨n, hn, rfl⟩ := List.mem_map.1 hc
  have := M.laid_byte s n hn
  omega
theorem laidI_len (s : Nat) : (laidI s).length = 4 := rfl
theorem nats_laid (s : Nat) : nats (laidI s) = M.laid s := by
  unfold nats laidI
  rw [List.map_map]
  exact (List.map_congr_left fun n _ => by simp).trans (List.map_id _)
theorem put4 (s : Nat) (h : s < 4294967296) : octet_Put.f 10 (s : Int) 4 = some [((s / 16777216 % 256 : Nat) : Int), ((s / 65536 % 256 : Nat) : Int), ((s / 256 % 256 : Nat) : Int), ((s % 256 : Nat) : Int)] := by
  have h1 := put_seat (s : Int) 4 0
  rw [h1]
  unfold putL
  rw [if_pos ⟨by decide, by decide, by omega, by show (s : Int) < 2 ^ 32; omega⟩]
  show some [(s : Int) / 2 ^ 24 % 256, (s : Int) / 2 ^ 16 % 256, (s : Int) / 2 ^ 8 % 256, (s : Int) / 2 ^ 0 % 256] = _
  simp
theorem laid_f (s : Nat) (h : s < 4294967296) : crc_laid.f 10 (s : Int) = some (laidI s) := by
  unfold crc_laid.f
  rw [show wrap64 (s : Int) = (s : Int) by unfold wrap64; omega, put4 s h, Option.bind_some]
  rfl
def sealI (l : List Int) : List Int := l ++ laidI (M.sum (nats l))
set_option maxHeartbeats 4000000 in
set_option maxRecDepth 100000 in
theorem crc_Seal.calls (A0 : Option Addr) (c0 : Nat) (l0 : List Int) (w : World) (hr0 : Kd.C (Kd.int .u8) w A0 l0.length l0) (hc0 : l0.length ≤ c0) (hb : byteRow l0) (hl : l0.length < 140737488355000) :
    Calls Try.prog 26 #[tabV true, .slice A0 l0.length c0] w fun e w' => ∃ v0_ : Value, e = .returned (v0_) ∧ Kd.R (Kd.int .u8) 5 w' w.heap.size (fun _ => True) v0_ (sealI l0) ∧ Below w.heap.size w w' := by
  have HR := Aside0.mk hr0
  have HC := Aside0.mk hc0
  have HBY := Aside0.mk hb
  have HT := Aside0.mk (IsTab.new true w)
  have HB := Aside0.mk (below_drew1 (below_alloc (Below.refl w.heap.size w) (.cells (tabRow true) 27 (0, 0))))
  have H0 := Aside0.mk (show bytes_Clone.f l0 = some l0 by unfold bytes_Clone.f; rw [if_pos (by omega)])
  have HLD := Aside0.mk (show crc_laid.f 10 ((moreN true 0 (nats l0) : Nat) : Int) = some (laidI (M.sum (nats l0))) by rw [moreN_true]; exact laid_f _ (M.sum_lt (nats_lt hb)))
  have HLL := Aside0.mk hl
  clear hr0 hc0 hb hl
  go_enter Try.func26, Try.ntmps26
  go_wp2_with fail

  refine start_ (n := 8) (S := fun w' => IsTab true w' w.heap.size) (ds := []) #[false, false, false, false, false, false, false, false] (by kernel_rfl) rfl rfl (HT.out.drew1) (fun hHeld => ?_)
  refine pure_ (i := 0) (N := some 5) (v := ?_) (a' := ?_) #[true, false, false, false, false, false, false, false] rfl rfl (by kernel_rfl) (fun _ _ _ h => h) (Or.inl ⟨by rfl, ?_⟩) ?_ ?_
  rotate_left
  · intro w'
    go_simp
    with_reducible rfl
  rotate_left
  · simp only [Act.put, List.setIfInBounds_toArray, List.set_cons_zero, List.set_cons_succ, i64_w, i32_w]
    rfl
  refine pure_ (i := 3) (N := some 8) (v := ?_) (a' := ?_) #[true, false, false, true, false, false, false, false] rfl rfl (by kernel_rfl) (fun _ _ _ h => h) (Or.inl ⟨by rfl, ?_⟩) ?_ ?_
  rotate_left
  · intro w'
    go_simp
    with_reducible rfl
  rotate_left
  · simp only [Act.put, List.setIfInBounds_toArray, List.set_cons_zero, List.set_cons_succ, i64_w, i32_w]
    rfl
  refine take_ (i := 2) (N := some 7) (v := tabV true) #[true, false, true, true, false, false, false, false] rfl rfl (by kernel_rfl) (fun _ _ _ h => h) ?_ hHeld rfl ?_
  · exact yields_tab (by rfl) _ rfl _ rfl true (by intro w' s0; exact s0)
  refine norm_ (a' := ?_) ?_ ?_
  rotate_left
  · show Act.put _ (some 7) _ = _
    simp only [Act.put, List.setIfInBounds_toArray, List.set_cons_zero, List.set_cons_succ, i64_w, i32_w]
    rfl
  refine one_ (i := 1) (N := some 6) #[true, true, true, true, false, false, false, false] rfl rfl (by kernel_rfl) (by decide) (fun K hK => ?_)
  refine goes_ Try.func50 (by kernel_rfl) rfl #[.slice A0 l0.length c0] (by rfl) rfl rfl (by simp only [List.map_toArray, List.map_cons, List.map_nil]; rfl) ?_
  with_reducible refine (bytes_Clone.calls _ _ _ _ _ (Kd.C_below HR.out HB.out) HC.out H0.out).mono ?_
  rintro e w1 ⟨v1, rfl, hR1, hB1⟩
  refine ⟨_, rfl, ?_⟩
  have HT1 := Aside0.mk (HT.out.drew1.below hB1)
  have HB1 := Aside0.mk (below_step HB.out hB1)
  have HO1 := Aside0.mk (Kd.R_lower hR1 HB.out.size)
  clear hR1 hB1
  refine hK.out _ _ (HT1.out) (fun hHeld => ?_)
  clear hK K
  refine norm_ (a' := ?_) ?_ ?_
  rotate_left
  · show Act.put _ (some 6) _ = _
    simp only [Act.put, List.setIfInBounds_toArray, List.set_cons_zero, List.set_cons_succ, i64_w, i32_w]
    rfl
  refine one_ (i := 4) (N := some 9) #[true, true, true, true, true, false, false, false] rfl rfl (by kernel_rfl) (by decide) (fun K hK => ?_)
  refine goes_ Try.func21 (by kernel_rfl) rfl #[tabV true, .slice A0 l0.length c0] (by rfl) rfl rfl (by simp only [List.map_toArray, List.map_cons, List.map_nil]; rfl) ?_
  with_reducible refine (crc_Sum.calls true _ _ _ _ (Kd.C_below HR.out HB1.out) HC.out HBY.out).mono ?_
  rintro e w2 ⟨rfl, hB2⟩
  refine ⟨_, rfl, ?_⟩
  have HT2 := Aside0.mk (HT1.out.below hB2)
  have HB2 := Aside0.mk (below_step HB1.out hB2)
  have HO2 := Aside0.mk (Kd.R_below HO1.out hB2)
  clear hB2
  refine hK.out _ _ (HT2.out) (fun hHeld => ?_)
  clear hK K
  refine norm_ (a' := ?_) ?_ ?_
  rotate_left
  · show Act.put _ (some 9) _ = _
    simp only [Act.put, List.setIfInBounds_toArray, List.set_cons_zero, List.set_cons_succ, i64_w, i32_w]
    rfl
  refine one_ (i := 5) (N := some 10) #[true, true, true, true, true, true, false, false] rfl rfl (by kernel_rfl) (by decide) (fun K hK => ?_)
  refine goes_ Try.func51 (by kernel_rfl) rfl #[.int .u32 ((moreN true 0 (nats l0) : Nat) : Int)] (by rfl) rfl rfl (by simp only [List.map_toArray, List.map_cons, List.map_nil]; rfl) ?_
  with_reducible refine (crc_laid.calls 10 _ _ _ HLD.out).mono ?_
  rintro e w3 ⟨v3, rfl, hR3, hB3⟩
  refine ⟨_, rfl, ?_⟩
  obtain ⟨A3, c3, rfl, hc3, hC3⟩ := Kd.R_reads hR3
  have HT3 := Aside0.mk (HT2.out.below hB3)
  have HB3 := Aside0.mk (below_step HB2.out hB3)
  have HO3 := Aside0.mk (Kd.R_below HO2.out hB3)
  have HC3 := Aside0.mk hC3
  clear hB3 hR3 hC3 hc3
  refine hK.out _ _ (HT3.out) (fun hHeld => ?_)
  clear hK K
  refine norm_ (a' := ?_) ?_ ?_
  rotate_left
  · show Act.put _ (some 10) _ = _
    simp only [Act.put, List.setIfInBounds_toArray, List.set_cons_zero, List.set_cons_succ, i64_w, i32_w]
    rfl
  refine one_ (i := 6) (N := some 11) #[true, true, true, true, true, true, true, false] rfl rfl (by kernel_rfl) (by decide) (fun K hK => ?_)
  refine Kd.R_append_rows_step (Kd.int .u8) (w0 := w) w.heap.size (by rfl) (.tmp 6) (.tmp 10) 22 5 (.int .u8 0) 1 rfl Try.underlying22 info5 rfl (by decide) (by omega) v1 l0 (laidI (M.sum (nats l0))) _ _ _ (fun _ => True) (fun _ => False) rfl rfl HO3.out HC3.out (fun _ _ h => h) (fun _ h => h.elim) (fun _ _ => trivial) HB3.out HB3.out.size (by have := HLL.out; rw [laidI_len]; omega) ?_
  intro v4 w4 ho hb hg hat
  have HT4 := Aside0.mk (IsTab.grown HT3.out hg (Kd.R_ne HO3.out HT3.out (by decide)))
  have HO4 := Aside0.mk ho
  have HB4 := Aside0.mk hb
  clear ho hb hg hat
  refine hK.out _ _ (HT4.out) (fun hHeld => ?_)
  clear hK K
  refine norm_ (a' := ?_) ?_ ?_
  rotate_left
  · show Act.put _ (some 11) _ = _
    simp only [Act.put, List.setIfInBounds_toArray, List.set_cons_zero, List.set_cons_succ, i64_w, i32_w]
    rfl
  refine pure_ (i := 7) (N := some 4) (v := ?_) (a' := ?_) #[true, true, true, true, true, true, true, true] rfl rfl (by kernel_rfl) (fun _ _ _ h => h) (Or.inl ⟨by rfl, ?_⟩) ?_ ?_
  rotate_left
  · intro w'
    go_simp
    with_reducible rfl
  rotate_left
  · simp only [Act.put, List.setIfInBounds_toArray, List.set_cons_zero, List.set_cons_succ, i64_w, i32_w]
    rfl
  refine done_ (by kernel_rfl) ?_

  go_wp2_with fail
  go_ret
  exact ⟨_, rfl, HO4.out, HB4.out⟩
theorem bytesOf_inj : ∀ {l m : List Int}, byteRow l → byteRow m → Go.Lib.bytesOf l = Go.Lib.bytesOf m → l = m := by
  intro l
  induction l with
  | nil =>
    intro m _ _ h
    cases m with
    | nil => rfl
    | cons b m => cases h
  | cons a l ih =>
    intro m hl hm h
    cases m with
    | nil => cases h
    | cons b m =>
      have ha := hl a (List.mem_cons_self ..)
      have hb := hm b (List.mem_cons_self ..)
      simp only [Go.Lib.bytesOf, List.map_cons, List.cons.injEq] at h
      have e : a.toNat = b.toNat := by
        have h1 := congrArg UInt8.toNat h.1
        rw [UInt8.toNat_ofNat', UInt8.toNat_ofNat'] at h1
        omega
      rw [show a = b by omega, ih (fun x hx => hl x (List.mem_cons_of_mem _ hx)) (fun x hx => hm x (List.mem_cons_of_mem _ hx)) h.2]
theorem equal_f {l m : List Int} (hl : byteRow l) (hm : byteRow m) : bytes_Equal.f l m = some (decide (l = m)) := by
  unfold bytes_Equal.f
  rw [Go.Lib.strOfNums_toList, Go.Lib.strOfNums_toList]
  congr 1
  by_cases h : l = m
  · subst h; simp
  · rw [decide_eq_false h]
    exact beq_eq_false_iff_ne.mpr fun e => h (bytesOf_inj hl hm e)
/-- Bytes without their sum, and whether it is their sum. -/
def openB (l : List Int) : Bool := if l.length < 4 then false else decide (l.drop (l.length - 4) = laidI (M.sum (nats (l.take (l.length - 4)))))
def openL (l : List Int) : List Int := if openB l then l.take (l.length - 4) else []
set_option maxHeartbeats 4000000 in
set_option maxRecDepth 100000 in
theorem crc_Open.calls (A0 : Option Addr) (c0 : Nat) (l0 : List Int) (w : World) (hr0 : Kd.C (Kd.int .u8) w A0 l0.length l0) (hc0 : l0.length ≤ c0) (hb : byteRow l0) (hl : l0.length < 140737488355000) :
    Calls Try.prog 27 #[tabV true, .slice A0 l0.length c0] w fun e w' => ∃ v0_ : Value, e = .returned (.tuple #[v0_, .bool (openB l0)]) ∧ Kd.R (Kd.int .u8) 5 w' w.heap.size (fun _ => True) v0_ (openL l0) ∧ Below w.heap.size w w' := by
  have HT := Aside0.mk (IsTab.new true w)
  have HB := Aside0.mk (below_drew1 (below_alloc (Below.refl w.heap.size w) (.cells (tabRow true) 27 (0, 0))))
  by_cases h4 : l0.length < 4
  · have d4 : decide ((l0.length : Int) - 4 < 0) = true := decide_eq_true (by omega)
    have hob : openB l0 = false := by unfold openB; rw [if_pos h4]
    have hol : openL l0 = [] := by unfold openL; rw [hob]; rfl
    rw [hob, hol]
    clear hob hol
    go_enter Try.func27, Try.ntmps27
    go_wp2_with fail
    refine start_ (n := 15) (S := fun w' => IsTab true w' w.heap.size) (ds := []) #[false, false, false, false, false, false, false, false, false, false, false, false, false, false, false] (by kernel_rfl) rfl rfl (HT.out.drew1) (fun hHeld => ?_)
    refine pure_ (i := 0) (N := some 10) (v := ?_) (a' := ?_) #[true, false, false, false, false, false, false, false, false, false, false, false, false, false, false] rfl rfl (by kernel_rfl) (fun _ _ _ h => h) (Or.inl ⟨by rfl, ?_⟩) ?_ ?_
    rotate_left
    · intro w'
      go_simp
      with_reducible rfl
    rotate_left
    · simp only [Act.put, List.setIfInBounds_toArray, List.set_cons_zero, List.set_cons_succ, i64_w, i32_w]
      rfl
    refine pure_ (i := 1) (N := some 11) (v := ?_) (a' := ?_) #[true, true, false, false, false, false, false, false, false, false, false, false, false, false, false] rfl rfl (by kernel_rfl) (fun _ _ _ h => h) (Or.inl ⟨by rfl, ?_⟩) ?_ ?_
    rotate_left
    · intro w'
      go_simp
      with_reducible rfl
    rotate_left
    · simp only [Act.put, List.setIfInBounds_toArray, List.set_cons_zero, List.set_cons_succ, i64_w, i32_w]
      rfl
    refine pure_ (i := 2) (N := some 12) (v := ?_) (a' := ?_) #[true, true, true, false, false, false, false, false, false, false, false, false, false, false, false] rfl rfl (by kernel_rfl) (fun _ _ _ h => h) (Or.inl ⟨by rfl, ?_⟩) ?_ ?_
    rotate_left
    · intro w'
      go_simp
      with_reducible rfl
    rotate_left
    · simp only [Act.put, List.setIfInBounds_toArray, List.set_cons_zero, List.set_cons_succ, i64_w, i32_w]
      rfl
    refine pure_ (i := 3) (N := some 13) (v := undef) (a' := ?_) #[true, true, true, true, false, false, false, false, false, false, false, false, false, false, false] rfl rfl (by kernel_rfl) (fun _ _ _ h => h) (Or.inr ⟨by rfl, rfl⟩) ?_ ?_
    rotate_left
    · simp only [Act.put, List.setIfInBounds_toArray, List.set_cons_zero, List.set_cons_succ, i64_w, i32_w]
      rfl
    refine pure_ (i := 4) (N := some 14) (v := undef) (a' := ?_) #[true, true, true, true, true, false, false, false, false, false, false, false, false, false, false] rfl rfl (by kernel_rfl) (fun _ _ _ h => h) (Or.inr ⟨by rfl, rfl⟩) ?_ ?_
    rotate_left
    · simp only [Act.put, List.setIfInBounds_toArray, List.set_cons_zero, List.set_cons_succ, i64_w, i32_w]
      rfl
    refine pure_ (i := 5) (N := some 15) (v := undef) (a' := ?_) #[true, true, true, true, true, true, false, false, false, false, false, false, false, false, false] rfl rfl (by kernel_rfl) (fun _ _ _ h => h) (Or.inr ⟨by rfl, rfl⟩) ?_ ?_
    rotate_left
    · simp only [Act.put, List.setIfInBounds_toArray, List.set_cons_zero, List.set_cons_succ, i64_w, i32_w]
      rfl
    refine pure_ (i := 6) (N := some 16) (v := undef) (a' := ?_) #[true, true, true, true, true, true, true, false, false, false, false, false, false, false, false] rfl rfl (by kernel_rfl) (fun _ _ _ h => h) (Or.inr ⟨by rfl, rfl⟩) ?_ ?_
    rotate_left
    · simp only [Act.put, List.setIfInBounds_toArray, List.set_cons_zero, List.set_cons_succ, i64_w, i32_w]
      rfl
    refine pure_ (i := 7) (N := some 17) (v := undef) (a' := ?_) #[true, true, true, true, true, true, true, true, false, false, false, false, false, false, false] rfl rfl (by kernel_rfl) (fun _ _ _ h => h) (Or.inr ⟨by rfl, rfl⟩) ?_ ?_
    rotate_left
    · simp only [Act.put, List.setIfInBounds_toArray, List.set_cons_zero, List.set_cons_succ, i64_w, i32_w]
      rfl
    refine pure_ (i := 8) (N := some 18) (v := undef) (a' := ?_) #[true, true, true, true, true, true, true, true, true, false, false, false, false, false, false] rfl rfl (by kernel_rfl) (fun _ _ _ h => h) (Or.inr ⟨by rfl, rfl⟩) ?_ ?_
    rotate_left
    · simp only [Act.put, List.setIfInBounds_toArray, List.set_cons_zero, List.set_cons_succ, i64_w, i32_w]
      rfl
    refine pure_ (i := 9) (N := some 19) (v := undef) (a' := ?_) #[true, true, true, true, true, true, true, true, true, true, false, false, false, false, false] rfl rfl (by kernel_rfl) (fun _ _ _ h => h) (Or.inr ⟨by rfl, rfl⟩) ?_ ?_
    rotate_left
    · simp only [Act.put, List.setIfInBounds_toArray, List.set_cons_zero, List.set_cons_succ, i64_w, i32_w]
      rfl
    refine pure_ (i := 10) (N := some 20) (v := undef) (a' := ?_) #[true, true, true, true, true, true, true, true, true, true, true, false, false, false, false] rfl rfl (by kernel_rfl) (fun _ _ _ h => h) (Or.inr ⟨by rfl, rfl⟩) ?_ ?_
    rotate_left
    · simp only [Act.put, List.setIfInBounds_toArray, List.set_cons_zero, List.set_cons_succ, i64_w, i32_w]
      rfl
    refine pure_ (i := 11) (N := some 21) (v := undef) (a' := ?_) #[true, true, true, true, true, true, true, true, true, true, true, true, false, false, false] rfl rfl (by kernel_rfl) (fun _ _ _ h => h) (Or.inr ⟨by rfl, rfl⟩) ?_ ?_
    rotate_left
    · simp only [Act.put, List.setIfInBounds_toArray, List.set_cons_zero, List.set_cons_succ, i64_w, i32_w]
      rfl
    refine pure_ (i := 12) (N := some 22) (v := undef) (a' := ?_) #[true, true, true, true, true, true, true, true, true, true, true, true, true, false, false] rfl rfl (by kernel_rfl) (fun _ _ _ h => h) (Or.inr ⟨by rfl, rfl⟩) ?_ ?_
    rotate_left
    · simp only [Act.put, List.setIfInBounds_toArray, List.set_cons_zero, List.set_cons_succ, i64_w, i32_w]
      rfl
    refine pure_ (i := 13) (N := some 23) (v := undef) (a' := ?_) #[true, true, true, true, true, true, true, true, true, true, true, true, true, true, false] rfl rfl (by kernel_rfl) (fun _ _ _ h => h) (Or.inr ⟨by rfl, rfl⟩) ?_ ?_
    rotate_left
    · simp only [Act.put, List.setIfInBounds_toArray, List.set_cons_zero, List.set_cons_succ, i64_w, i32_w]
      rfl
    refine pure_ (i := 14) (N := some 24) (v := ?_) (a' := ?_) #[true, true, true, true, true, true, true, true, true, true, true, true, true, true, true] rfl rfl (by kernel_rfl) (fun _ _ _ h => h) (Or.inl ⟨by rfl, ?_⟩) ?_ ?_
    rotate_left
    · intro w'
      go_simp
      with_reducible rfl
    rotate_left
    · simp only [Act.put, List.setIfInBounds_toArray, List.set_cons_zero, List.set_cons_succ, i64_w, i32_w]
      rfl
    refine done_ (by kernel_rfl) ?_
    go_wp2_with fail
    go_ret2
    exact ⟨_, rfl, Kd.R_nil _ _ _ _ _, HB.out⟩
  obtain ⟨m, hm⟩ : ∃ m, l0.length = m + 4 := ⟨l0.length - 4, by omega⟩
  have ht : (l0.take m).length = m := by rw [List.length_take]; omega
  have hdl : (l0.drop m).length = 4 := by rw [List.length_drop]; omega
  have hbt : byteRow (l0.take m) := fun c hc => hb c (List.mem_of_mem_take hc)
  have hbd : byteRow (l0.drop m) := fun c hc => hb c (List.mem_of_mem_drop hc)
  have HOB := Aside0.mk (show openB l0 = decide (l0.drop m = laidI (M.sum (nats (l0.take m)))) by unfold openB; rw [if_neg h4, show l0.length - 4 = m by omega])
  have HOL := Aside0.mk (show openL l0 = if decide (l0.drop m = laidI (M.sum (nats (l0.take m)))) then l0.take m else [] by unfold openL; rw [HOB.out, show l0.length - 4 = m by omega])
  have hl0 := l0.length
  obtain ⟨i0, hi, hz0, hz1, hz2⟩ := info_parts info5
  have q1 := cut_to 22 5 .i64 (P := Try.prog) Try.underlying22 hi A0 l0.length c0 (m : Int) (by omega) (by omega) hc0
  have q2 := cut_from 22 5 .i64 (P := Try.prog) Try.underlying22 hi 1 hz1 A0 l0.length c0 (m : Int) (by omega) (by omega)
  rw [Int.toNat_natCast] at q1 q2
  have hD := Kd.C_drop hr0 (show m ≤ l0.length by omega) hc0
  have hT := Kd.C_take hr0 (show m ≤ l0.length by omega)
  rw [show m * (Kd.int .u8).sz = m * 1 from rfl] at hD
  generalize (if c0 = m then A0 else A0.map (·.add (m * 1))) = A1 at q2 hD
  rw [show l0.length - m = 4 by omega] at q2
  rw [hdl] at hD
  rw [ht] at hT
  have HD := Aside0.mk hD
  have HTK := Aside0.mk hT
  have HC0 := Aside0.mk (show m ≤ c0 by omega)
  have HC1 := Aside0.mk (show 4 ≤ c0 - m by omega)
  have HSM := Aside0.mk (crc_Sum.calls true A0 c0 (l0.take m))
  rw [ht] at HSM
  have HCL := Aside0.mk (bytes_Clone.calls A0 c0 (l0.take m) (l0.take m))
  rw [ht] at HCL
  have HEQ := Aside0.mk (bytes_Equal.calls A1 (c0 - m) (l0.drop m))
  rw [hdl] at HEQ
  have hmi : (l0.length : Int) - 4 = (m : Int) := by omega
  have d4 : decide ((m : Int) < 0) = false := decide_eq_false (by omega)
  have HBT := Aside0.mk hbt
  have HE := Aside0.mk (equal_f hbd (laidI_byte (M.sum (nats (l0.take m)))))
  have HLD := Aside0.mk (show crc_laid.f 10 ((moreN true 0 (nats (l0.take m)) : Nat) : Int) = some (laidI (M.sum (nats (l0.take m)))) by rw [moreN_true]; exact laid_f _ (M.sum_lt (nats_lt hbt)))
  have HF := Aside0.mk (show bytes_Clone.f (l0.take m) = some (l0.take m) by unfold bytes_Clone.f; rw [if_pos (by omega)])
  have hml : m ≤ 140737488355000 := by omega
  rw [HOB.out, HOL.out]
  generalize hbb : decide (l0.drop m = laidI (M.sum (nats (l0.take m)))) = b at HE
  clear hr0 hc0 hb hl h4 ht hdl hbt hbd hD hT hi hz0 hz1 hz2 hl0 HOB HOL hbb hm
  go_enter Try.func27, Try.ntmps27
  go_wp2_with fail
  refine start_ (n := 15) (S := fun w' => IsTab true w' w.heap.size) (ds := []) #[false, false, false, false, false, false, false, false, false, false, false, false, false, false, false] (by kernel_rfl) rfl rfl (HT.out.drew1) (fun hHeld => ?_)
  refine pure_ (i := 0) (N := some 10) (v := ?_) (a' := ?_) #[true, false, false, false, false, false, false, false, false, false, false, false, false, false, false] rfl rfl (by kernel_rfl) (fun _ _ _ h => h) (Or.inl ⟨by rfl, ?_⟩) ?_ ?_
  rotate_left
  · intro w'
    go_simp
    with_reducible rfl
  rotate_left
  · simp only [Act.put, List.setIfInBounds_toArray, List.set_cons_zero, List.set_cons_succ, i64_w, i32_w]
    rfl
  refine pure_ (i := 1) (N := some 11) (v := ?_) (a' := ?_) #[true, true, false, false, false, false, false, false, false, false, false, false, false, false, false] rfl rfl (by kernel_rfl) (fun _ _ _ h => h) (Or.inl ⟨by rfl, ?_⟩) ?_ ?_
  rotate_left
  · intro w'
    go_simp
    with_reducible rfl
  rotate_left
  · simp only [Act.put, List.setIfInBounds_toArray, List.set_cons_zero, List.set_cons_succ, i64_w, i32_w]
    rfl
  refine pure_ (i := 2) (N := some 12) (v := ?_) (a' := ?_) #[true, true, true, false, false, false, false, false, false, false, false, false, false, false, false] rfl rfl (by kernel_rfl) (fun _ _ _ h => h) (Or.inl ⟨by rfl, ?_⟩) ?_ ?_
  rotate_left
  · intro w'
    go_simp
    with_reducible rfl
  rotate_left
  · simp only [Act.put, List.setIfInBounds_toArray, List.set_cons_zero, List.set_cons_succ, i64_w, i32_w]
    rfl
  refine pure_ (i := 3) (N := some 13) (v := ?_) (a' := ?_) #[true, true, true, true, false, false, false, false, false, false, false, false, false, false, false] rfl rfl (by kernel_rfl) (fun _ _ _ h => h) (Or.inl ⟨by rfl, ?_⟩) ?_ ?_
  rotate_left
  · intro w'
    go_simp
    with_reducible rfl
  rotate_left
  · simp only [Act.put, List.setIfInBounds_toArray, List.set_cons_zero, List.set_cons_succ, i64_w, i32_w]
    rfl
  refine pure_ (i := 4) (N := some 14) (v := ?_) (a' := ?_) #[true, true, true, true, true, false, false, false, false, false, false, false, false, false, false] rfl rfl (by kernel_rfl) (fun _ _ _ h => h) (Or.inl ⟨by rfl, ?_⟩) ?_ ?_
  rotate_left
  · intro w'
    go_simp
    with_reducible rfl
  rotate_left
  · simp only [Act.put, List.setIfInBounds_toArray, List.set_cons_zero, List.set_cons_succ, i64_w, i32_w]
    rfl
  refine pure_ (i := 5) (N := some 15) (v := ?_) (a' := ?_) #[true, true, true, true, true, true, false, false, false, false, false, false, false, false, false] rfl rfl (by kernel_rfl) (fun _ _ _ h => h) (Or.inl ⟨by rfl, ?_⟩) ?_ ?_
  rotate_left
  · intro w'
    go_simp
    with_reducible rfl
  rotate_left
  · simp only [Act.put, List.setIfInBounds_toArray, List.set_cons_zero, List.set_cons_succ, i64_w, i32_w]
    rfl
  refine pure_ (i := 7) (N := some 17) (v := ?_) (a' := ?_) #[true, true, true, true, true, true, false, true, false, false, false, false, false, false, false] rfl rfl (by kernel_rfl) (fun _ _ _ h => h) (Or.inl ⟨by rfl, ?_⟩) ?_ ?_
  rotate_left
  · intro w'
    go_simp
    with_reducible rfl
  rotate_left
  · simp only [Act.put, List.setIfInBounds_toArray, List.set_cons_zero, List.set_cons_succ, i64_w, i32_w]
    rfl
  refine pure_ (i := 8) (N := some 18) (v := ?_) (a' := ?_) #[true, true, true, true, true, true, false, true, true, false, false, false, false, false, false] rfl rfl (by kernel_rfl) (fun _ _ _ h => h) (Or.inl ⟨by rfl, ?_⟩) ?_ ?_
  rotate_left
  · intro w'
    go_simp
    with_reducible rfl
  rotate_left
  · simp only [Act.put, List.setIfInBounds_toArray, List.set_cons_zero, List.set_cons_succ, i64_w, i32_w]
    rfl
  refine pure_ (i := 9) (N := some 19) (v := ?_) (a' := ?_) #[true, true, true, true, true, true, false, true, true, true, false, false, false, false, false] rfl rfl (by kernel_rfl) (fun _ _ _ h => h) (Or.inl ⟨by rfl, ?_⟩) ?_ ?_
  rotate_left
  · intro w'
    go_simp
    with_reducible rfl
  rotate_left
  · simp only [Act.put, List.setIfInBounds_toArray, List.set_cons_zero, List.set_cons_succ, i64_w, i32_w]
    rfl
  refine take_ (i := 6) (N := some 16) (v := tabV true) #[true, true, true, true, true, true, true, true, true, true, false, false, false, false, false] rfl rfl (by kernel_rfl) (fun _ _ _ h => h) ?_ hHeld rfl ?_
  · exact yields_tab (by rfl) _ rfl _ rfl true (by intro w' s0; exact s0)
  refine norm_ (a' := ?_) ?_ ?_
  rotate_left
  · show Act.put _ (some 16) _ = _
    simp only [Act.put, List.setIfInBounds_toArray, List.set_cons_zero, List.set_cons_succ, i64_w, i32_w]
    rfl
  refine one_ (i := 10) (N := some 20) #[true, true, true, true, true, true, true, true, true, true, true, false, false, false, false] rfl rfl (by kernel_rfl) (by decide) (fun K hK => ?_)
  refine goes_ Try.func21 (by kernel_rfl) rfl #[tabV true, .slice A0 m c0] (by rfl) rfl rfl (by simp only [List.map_toArray, List.map_cons, List.map_nil]; rfl) ?_
  with_reducible refine (HSM.out _ (Kd.C_below HTK.out HB.out) HC0.out HBT.out).mono ?_
  rintro e w2 ⟨rfl, hB2⟩
  refine ⟨_, rfl, ?_⟩
  have HT2 := Aside0.mk (HT.out.drew1.below hB2)
  have HB2 := Aside0.mk (below_step HB.out hB2)
  clear hB2
  refine hK.out _ _ (HT2.out) (fun hHeld => ?_)
  clear hK K
  refine norm_ (a' := ?_) ?_ ?_
  rotate_left
  · show Act.put _ (some 20) _ = _
    simp only [Act.put, List.setIfInBounds_toArray, List.set_cons_zero, List.set_cons_succ, i64_w, i32_w]
    rfl
  refine one_ (i := 11) (N := some 21) #[true, true, true, true, true, true, true, true, true, true, true, true, false, false, false] rfl rfl (by kernel_rfl) (by decide) (fun K hK => ?_)
  refine goes_ Try.func51 (by kernel_rfl) rfl #[.int .u32 ((moreN true 0 (nats (l0.take m)) : Nat) : Int)] (by rfl) rfl rfl (by simp only [List.map_toArray, List.map_cons, List.map_nil]; rfl) ?_
  with_reducible refine (crc_laid.calls 10 _ _ _ HLD.out).mono ?_
  rintro e w3 ⟨v3, rfl, hR3, hB3⟩
  refine ⟨_, rfl, ?_⟩
  obtain ⟨A3, c3, rfl, hc3, hC3⟩ := Kd.R_reads hR3
  have HT3 := Aside0.mk (HT2.out.below hB3)
  have HB3 := Aside0.mk (below_step HB2.out hB3)
  have HC3 := Aside0.mk hC3
  have Hc3 := Aside0.mk hc3
  clear hB3 hR3 hC3 hc3
  refine hK.out _ _ (HT3.out) (fun hHeld => ?_)
  clear hK K
  refine norm_ (a' := ?_) ?_ ?_
  rotate_left
  · show Act.put _ (some 21) _ = _
    simp only [Act.put, List.setIfInBounds_toArray, List.set_cons_zero, List.set_cons_succ, i64_w, i32_w]
    rfl
  refine one_ (i := 12) (N := some 22) #[true, true, true, true, true, true, true, true, true, true, true, true, true, false, false] rfl rfl (by kernel_rfl) (by decide) (fun K hK => ?_)
  refine goes_ Try.func52 (by kernel_rfl) rfl #[.slice A1 4 (c0 - m), .slice A3 (laidI (M.sum (nats (l0.take m)))).length c3] (by rfl) rfl rfl (by simp only [List.map_toArray, List.map_cons, List.map_nil]; rfl) ?_
  with_reducible refine (HEQ.out _ _ _ _ _ (Kd.C_below HD.out HB3.out) HC1.out HC3.out Hc3.out HE.out).mono ?_
  rintro e w4 ⟨rfl, hd4⟩
  refine ⟨_, rfl, ?_⟩
  have HT4 := Aside0.mk (HT3.out.below (Drawn0.below hd4))
  have HB4 := Aside0.mk (below_step HB3.out (Drawn0.below hd4))
  clear hd4
  refine hK.out _ _ (HT4.out) (fun hHeld => ?_)
  clear hK K
  refine norm_ (a' := ?_) ?_ ?_
  rotate_left
  · show Act.put _ (some 22) _ = _
    simp only [Act.put, List.setIfInBounds_toArray, List.set_cons_zero, List.set_cons_succ, i64_w, i32_w]
    rfl
  refine pure_ (i := 13) (N := some 23) (v := ?_) (a' := ?_) #[true, true, true, true, true, true, true, true, true, true, true, true, true, true, false] rfl rfl (by kernel_rfl) (fun _ _ _ h => h) (Or.inl ⟨by rfl, ?_⟩) ?_ ?_
  rotate_left
  · intro w'
    go_simp
    with_reducible rfl
  rotate_left
  · simp only [Act.put, List.setIfInBounds_toArray, List.set_cons_zero, List.set_cons_succ, i64_w, i32_w]
    rfl
  refine pure_ (i := 14) (N := some 24) (v := ?_) (a' := ?_) #[true, true, true, true, true, true, true, true, true, true, true, true, true, true, true] rfl rfl (by kernel_rfl) (fun _ _ _ h => h) (Or.inl ⟨by rfl, ?_⟩) ?_ ?_
  rotate_left
  · intro w'
    go_simp
    with_reducible rfl
  rotate_left
  · simp only [Act.put, List.setIfInBounds_toArray, List.set_cons_zero, List.set_cons_succ, i64_w, i32_w]
    rfl
  refine done_ (by kernel_rfl) ?_
  cases b with
  | false =>
    go_wp2_with fail

    go_ret2
    exact ⟨_, rfl, Kd.R_nil _ _ _ _ _, HB4.out⟩
  | true =>
    go_wp2_with (go_at_call 50; refine (HCL.out _ (Kd.C_below HTK.out HB4.out) HC0.out HF.out).mono ?_; rintro e w5 ⟨v5, rfl, hR5, hB5⟩; have HR5 := Aside0.mk (Kd.R_lower hR5 HB4.out.size); have HB5 := Aside0.mk (below_step HB4.out hB5); clear hR5 hB5)
    go_ret2
    exact ⟨_, rfl, HR5.out, HB5.out⟩
end Go.Proofs.Ytpalloofjljhkaa.P
