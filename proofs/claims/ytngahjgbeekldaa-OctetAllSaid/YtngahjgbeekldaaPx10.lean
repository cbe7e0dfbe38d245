-- Laid by a program of this session (wip/print2).
import Derived.Test.YtngahjgbeekldaaPx0
import Derived.Test.YtngahjgbeekldaaPx11
import Derived.Test.YtngahjgbeekldaaPx17
import Derived.Test.YtngahjgbeekldaaPx20
import Derived.Test.YtngahjgbeekldaaPx21
import Derived.Test.YtngahjgbeekldaaPx25
import Derived.BigQuiet
import Derived.Deep.QuietTactic
namespace Go.Proofs.Ytngahjgbeekldaa.P
open Go.RowKit Go.Proofs.YtngahjgbeekldaaW.PrintWords Go.Proofs.YtngahjgbeekldaaW.PrintLast Go.Proofs.YtngahjgbeekldaaW.PrintMore
attribute [local go_sem] max2_int min2_int max_two min_two max_three min_three max_four min_four   -- for this text's walks alone
set_option linter.unusedVariables false
set_option linter.unusedSimpArgs false

/-! ### antiphonlaw1_OctetAll: function 9 -/
-- IMPORT Derived.Deep.QuietTactic
-- IMPORT Derived.BigQuiet
def wordsOk (l : List Int) : Bool := l.all fun x => decide (0 ≤ x) && decide (x < 65536)
/-- So many numbers read one behind the other are they, or none: true. -/
def antiphonlaw1_OctetAll.f (l0 : List Int) (a1 : Int) : Option Bool := if wordsOk l0 = true then some true else none
set_option maxHeartbeats 4000000 in
set_option maxRecDepth 100000 in
theorem antiphonlaw1_OctetAll.calls (A0 : Option Addr) (c0 : Nat) (l0 : List Int) (a1 : Int) (r : Bool) (w : World) (hr0 : Kd.C (Kd.int .u16) w A0 l0.length l0) (hc0 : l0.length ≤ c0) (h : antiphonlaw1_OctetAll.f l0 a1 = some r) :
    Calls Try.prog 9 #[.slice A0 l0.length c0, .int .i64 a1] w fun e w' => e = .returned (.bool r) ∧ Below w.heap.size w w' := by
  unfold antiphonlaw1_OctetAll.f at h
  by_cases hp : wordsOk l0 = true
  case neg => rw [if_neg hp] at h; cases h
  rw [if_pos hp] at h
  obtain rfl := Option.some.inj h
  clear h
  have HR0 := Aside0.mk hr0
  have HW := Aside0.mk (show ∀ x ∈ l0, 0 ≤ x ∧ x < 65536 from by
    intro x hx
    have := List.all_eq_true.1 hp x hx
    simpa using this)
  have HC0 := Aside0.mk hc0
  clear hr0 hp hc0
  have A1_ := Aside0.mk (show antiphonlaw1_awake.f = some true from rfl)
  go_enter Try.func9, Try.ntmps9
  go_wp2_with fail
  refine (antiphonlaw1_awake.calls true _ A1_.out).mono ?_
  rintro e wA ⟨rfl, hBA⟩
  have HBA := Aside0.mk hBA
  have HRA := Aside0.mk (Kd.C_below HR0.out hBA)
  clear hBA HR0
  by_cases hl0 : l0.length ≤ 200
  case neg =>
    have hl0' : decide (200 < l0.length) = true := decide_eq_true (by omega)
    go_wp2_with fail
    go_ret
    exact ⟨rfl, HBA.out⟩
  have hl0' : decide (200 < l0.length) = false := decide_eq_false (by omega)
  go_wp2_with fail
  go_loopw [5, 6] (fun v5 v6 wr => ∃ j : Nat, j ≤ l0.length ∧ v6 = .int .i64 j ∧ Aside0 (Kd.R (Kd.int .u8) 5 wr wA.heap.size (fun _ => True) v5 (wordB (l0.take j))) ∧ Aside0 (Below wA.heap.size wA wr)) (fun _ v6 _ => l0.length - (intOf v6).toNat)
  case atStart => exact ⟨0, Nat.zero_le _, rfl, ⟨Kd.R_nil _ _ _ _ _⟩, ⟨Below.refl _ _⟩⟩
  case round =>
    obtain ⟨j, hj, rfl, HR, HB⟩ := hrel
    by_cases hlt : j < l0.length
    · obtain ⟨ad, ead, hcell⟩ := Kd.at_int (Kd.C_below HRA.out HB.out) j (by omega) (by omega)
      cases ead
      rw [Int.toNat_natCast] at hcell
      obtain ⟨ad', ead', hcA⟩ := Kd.at_int HRA.out j (by omega) (by omega)
      cases ead'
      rw [Int.toNat_natCast] at hcA
      have hb0 := HW.out (rd l0 j) (by unfold rd; rw [Int.toNat_natCast, List.getD_eq_getElem?_getD, List.getElem?_eq_getElem hlt]; exact List.getElem_mem hlt)
      go_wp2_with fail
      refine start_ (n := 15) (S := fun w' => w'.cell? (ad.add j) = some (.int .u16 (rd l0 (j : Int)))) (ds := []) #[false, false, false, false, false, false, false, false, false, false, false, false, false, false, false] (by kernel_rfl) rfl rfl ((HB.out.cell (World.block_lt_of_cell? wA _ hcA)).trans hcA) (fun hHeld => ?_)
      have HRd := Aside0.mk (Kd.R_drew HR.out)
      have HBd := Aside0.mk (below_drew1 HB.out)
      generalize wr.drew = wd at HRd HBd hHeld ⊢
      refine pure_ (i := 0) (N := some 21) (v := ?_) (a' := ?_) #[true, false, false, false, false, false, false, false, false, false, false, false, false, false, false] rfl rfl (by kernel_rfl) (fun _ _ _ h => h) (Or.inl ⟨by rfl, ?_⟩) ?_ ?_
      rotate_left
      · intro w'
        go_simp
        with_reducible rfl
      rotate_left
      · simp only [Act.put, List.setIfInBounds_toArray, List.set_cons_zero, List.set_cons_succ, i64_w, i32_w]
        rfl
      refine pure_ (i := 1) (N := some 22) (v := ?_) (a' := ?_) #[true, true, false, false, false, false, false, false, false, false, false, false, false, false, false] rfl rfl (by kernel_rfl) (fun _ _ _ h => h) (Or.inl ⟨by rfl, ?_⟩) ?_ ?_
      rotate_left
      · intro w'
        go_simp
        with_reducible rfl
      rotate_left
      · simp only [Act.put, List.setIfInBounds_toArray, List.set_cons_zero, List.set_cons_succ, i64_w, i32_w]
        rfl
      refine pure_ (i := 2) (N := some 23) (v := ?_) (a' := ?_) #[true, true, true, false, false, false, false, false, false, false, false, false, false, false, false] rfl rfl (by kernel_rfl) (fun _ _ _ h => h) (Or.inl ⟨by rfl, ?_⟩) ?_ ?_
      rotate_left
      · intro w'
        go_simp
        with_reducible rfl
      rotate_left
      · simp only [Act.put, List.setIfInBounds_toArray, List.set_cons_zero, List.set_cons_succ, i64_w, i32_w]
        rfl
      refine pure_ (i := 3) (N := some 24) (v := ?_) (a' := ?_) #[true, true, true, true, false, false, false, false, false, false, false, false, false, false, false] rfl rfl (by kernel_rfl) (fun _ _ _ h => h) (Or.inl ⟨by rfl, ?_⟩) ?_ ?_
      rotate_left
      · intro w'
        go_simp
        with_reducible rfl
      rotate_left
      · simp only [Act.put, List.setIfInBounds_toArray, List.set_cons_zero, List.set_cons_succ, i64_w, i32_w]
        rfl
      refine pure_ (i := 7) (N := some 28) (v := ?_) (a' := ?_) #[true, true, true, true, false, false, false, true, false, false, false, false, false, false, false] rfl rfl (by kernel_rfl) (fun _ _ _ h => h) (Or.inl ⟨by rfl, ?_⟩) ?_ ?_
      rotate_left
      · intro w'
        go_simp
        with_reducible rfl
      rotate_left
      · simp only [Act.put, List.setIfInBounds_toArray, List.set_cons_zero, List.set_cons_succ, i64_w, i32_w]
        rfl
      refine pure_ (i := 8) (N := some 29) (v := ?_) (a' := ?_) #[true, true, true, true, false, false, false, true, true, false, false, false, false, false, false] rfl rfl (by kernel_rfl) (fun _ _ _ h => h) (Or.inl ⟨by rfl, ?_⟩) ?_ ?_
      rotate_left
      · intro w'
        go_simp
        with_reducible rfl
      rotate_left
      · simp only [Act.put, List.setIfInBounds_toArray, List.set_cons_zero, List.set_cons_succ, i64_w, i32_w]
        rfl
      refine pure_ (i := 9) (N := some 30) (v := ?_) (a' := ?_) #[true, true, true, true, false, false, false, true, true, true, false, false, false, false, false] rfl rfl (by kernel_rfl) (fun _ _ _ h => h) (Or.inl ⟨by rfl, ?_⟩) ?_ ?_
      rotate_left
      · intro w'
        go_simp
        with_reducible rfl
      rotate_left
      · simp only [Act.put, List.setIfInBounds_toArray, List.set_cons_zero, List.set_cons_succ, i64_w, i32_w]
        rfl
      refine take_ (i := 4) (N := some 25) (v := ?_) (a' := ?_) #[true, true, true, true, true, false, false, true, true, true, false, false, false, false, false] rfl rfl (by kernel_rfl) (fun _ _ _ h => h) (Or.inl ⟨by rfl, ?_⟩) hHeld ?_ ?_
      rotate_left
      · intro w' s0
        go_simp
        with_reducible rfl
      rotate_left
      · simp only [Act.put, List.setIfInBounds_toArray, List.set_cons_zero, List.set_cons_succ, i64_w, i32_w]
        rfl
      refine pure_ (i := 5) (N := some 26) (v := ?_) (a' := ?_) #[true, true, true, true, true, true, false, true, true, true, false, false, false, false, false] rfl rfl (by kernel_rfl) (fun _ _ _ h => h) (Or.inl ⟨by rfl, ?_⟩) ?_ ?_
      rotate_left
      · intro w'
        go_simp
        with_reducible rfl
      rotate_left
      · simp only [Act.put, List.setIfInBounds_toArray, List.set_cons_zero, List.set_cons_succ, i64_w, i32_w]
        rfl
      refine pure_ (i := 6) (N := some 27) (v := ?_) (a' := ?_) #[true, true, true, true, true, true, true, true, true, true, false, false, false, false, false] rfl rfl (by kernel_rfl) (fun _ _ _ h => h) (Or.inl ⟨by rfl, ?_⟩) ?_ ?_
      rotate_left
      · intro w'
        go_simp
        with_reducible rfl
      rotate_left
      · simp only [Act.put, List.setIfInBounds_toArray, List.set_cons_zero, List.set_cons_succ, i64_w, i32_w]
        rfl
      refine take_ (i := 10) (N := some 31) (v := ?_) (a' := ?_) #[true, true, true, true, true, true, true, true, true, true, true, false, false, false, false] rfl rfl (by kernel_rfl) (fun _ _ _ h => h) (Or.inl ⟨by rfl, ?_⟩) hHeld ?_ ?_
      rotate_left
      · intro w' s0
        go_simp
        with_reducible rfl
      rotate_left
      · simp only [Act.put, List.setIfInBounds_toArray, List.set_cons_zero, List.set_cons_succ, i64_w, i32_w]
        rfl
      refine pure_ (i := 11) (N := some 32) (v := ?_) (a' := ?_) #[true, true, true, true, true, true, true, true, true, true, true, true, false, false, false] rfl rfl (by kernel_rfl) (fun _ _ _ h => h) (Or.inl ⟨by rfl, ?_⟩) ?_ ?_
      rotate_left
      · intro w'
        go_simp
        with_reducible rfl
      rotate_left
      · simp only [Act.put, List.setIfInBounds_toArray, List.set_cons_zero, List.set_cons_succ, i64_w, i32_w]
        rfl
      refine one_ (i := 12) (N := some 33) #[true, true, true, true, true, true, true, true, true, true, true, true, true, false, false] rfl rfl (by kernel_rfl) (by decide) (fun K hK => ?_)
      refine value_ (w1 := ?_) (v := ?_) (by rfl) rfl ?_ ?_
      rotate_left 2
      · go_simp
        constructor
        · rfl
        · rfl
      refine hK.out _ _ ((Go.Lib.cell?_alloc_some _ hHeld)) (fun hHeld => ?_)
      clear hK K
      refine norm_ (a' := ?_) ?_ ?_
      rotate_left
      · show Act.put _ (some 33) _ = _
        simp only [Act.put, List.setIfInBounds_toArray, List.set_cons_zero, List.set_cons_succ, i64_w, i32_w]
        rfl
      refine one_ (i := 13) (N := some 34) #[true, true, true, true, true, true, true, true, true, true, true, true, true, true, false] rfl rfl (by kernel_rfl) (by decide) (fun K hK => ?_)
      refine Kd.R_append_rows_step (Kd.int .u8) (w0 := wA) wA.heap.size (by rfl) (.tmp 21) (.tmp 33) 22 5 (.int .u8 0) 1 rfl Try.underlying22 info5 rfl (by decide) (by omega) u5 (wordB (l0.take j)) [IntKind.u8.wrap (rd l0 (j : Int) / 256), IntKind.u8.wrap (rd l0 (j : Int))] _ _ _ (fun _ => True) (fun _ => False) rfl rfl ?aO ?aR (fun _ _ h => h) (fun _ h => h.elim) (fun _ _ => trivial) ?aB ?aS ?aL ?_
      (case aO => exact Kd.R_alloc HRd.out _)
      (case aR => exact lit_C (xs := [IntKind.u8.wrap (rd l0 (j : Int) / 256), IntKind.u8.wrap (rd l0 (j : Int))]) (blk_new wd _) rfl (by simp))
      (case aB => exact below_alloc HBd.out _)
      (case aS => exact below_size (below_alloc HBd.out _))
      (case aL => have h1 := wordB_length (l0.take j); have h2 := List.length_take_le j l0; omega)
      intro v5 w5 ho hb hg hat
      have HR5 := Aside0.mk ho
      have HB5 := Aside0.mk hb
      clear ho hb hg hat
      refine hK.out _ _ ((HB5.out.cell (World.block_lt_of_cell? wA _ hcA)).trans hcA) (fun hHeld => ?_)
      clear hK K
      refine norm_ (a' := ?_) ?_ ?_
      rotate_left
      · show Act.put _ (some 34) _ = _
        simp only [Act.put, List.setIfInBounds_toArray, List.set_cons_zero, List.set_cons_succ, i64_w, i32_w]
        rfl
      refine pure_ (i := 14) (N := some 5) (v := ?_) (a' := ?_) #[true, true, true, true, true, true, true, true, true, true, true, true, true, true, true] rfl rfl (by kernel_rfl) (fun _ _ _ h => h) (Or.inl ⟨by rfl, ?_⟩) ?_ ?_
      rotate_left
      · intro w'
        go_simp
        with_reducible rfl
      rotate_left
      · simp only [Act.put, List.setIfInBounds_toArray, List.set_cons_zero, List.set_cons_succ, i64_w, i32_w]
        rfl
      refine done_ (by kernel_rfl) ?_
      go_wp2_with fail
      have ex : rd l0 (j : Int) = l0[j] := by unfold rd; rw [Int.toNat_natCast, List.getD_eq_getElem?_getD, List.getElem?_eq_getElem hlt]; rfl
      have et : wordB (l0.take (j + 1)) = wordB (l0.take j) ++ [IntKind.u8.wrap (rd l0 (j : Int) / 256), IntKind.u8.wrap (rd l0 (j : Int))] := by
        rw [List.take_add_one, List.getElem?_eq_getElem hlt]
        show wordB (l0.take j ++ [l0[j]]) = _
        rw [wordB_snoc, IntKind.wrap_u8, IntKind.wrap_u8, ← ex, Int.emod_eq_of_lt (a := rd l0 (j : Int) / 256) (by omega) (by omega)]
      exact ⟨⟨j + 1, by omega, by go_num, ⟨by rw [et]; exact HR5.out⟩, HB5⟩, by simp [intOf]; omega⟩
    · obtain rfl : j = l0.length := by omega
      rw [List.take_length] at HR
      obtain ⟨A5, c5, rfl, hc5, hC5⟩ := Kd.R_reads HR.out
      have hwl : (wordB l0).length < 140737488355328 := by rw [wordB_length]; omega
      go_wp2_with fail
      refine (octet_New.calls _ _ (wordB l0) _ hC5 hc5 hwl).mono ?_
      rintro e w2 ⟨g, w1, rfl, hB, hB1, hI⟩
      have HBW := Aside0.mk (below_step HBA.out (below_step HB.out hB))
      have HRW := Aside0.mk (Kd.C_below HRA.out (below_step HB.out hB))
      have HB1 := Aside0.mk hB1
      have HI := Aside0.mk hI
      clear hB hB1 hI hC5 hc5 HB HR
      go_wp2_with fail
      refine (octet_All_int.calls w1 w2 g l0 a1 HI.out HB1.out HW.out hl0).mono ?_
      rintro e w3 ⟨v, rfl, hR3, l', hI3, hl3, hB3⟩
      obtain ⟨A6, c6, rfl, hc6, hC6⟩ := Kd.R_reads hR3
      have HB3 := Aside0.mk hB3
      have HI3 := Aside0.mk hI3
      have HL3 := Aside0.mk hl3
      have HC6 := Aside0.mk hC6
      clear hR3 hB3 hI3 hl3 hC6 HI HB1
      by_cases hn1 : a1 < 1
      · have hd1 : decide (a1 < 1) = true := decide_eq_true hn1
        have hd2 : decide ((l0.length : Int) < a1) = false := decide_eq_false (by omega)
        have eg : allGot l0 a1 = [] := by unfold allGot; rw [if_pos (by omega), show a1.toNat = 0 by omega]; rfl
        rw [eg] at HC6 hc6 ⊢
        rw [hd2, Bool.false_and] at HI3
        go_wp2_with (first
          | (go_at_call 19; refine (octet_Reader_Fail.rd w1 _ g _ false HI3.out).mono ?_; rintro e w7 ⟨rfl, rfl⟩)
          | (go_at_call 19; refine (octet_Reader_Fail.rd w1 _ g _ false (HI3.out.drewN _)).mono ?_; rintro e w7 ⟨rfl, rfl⟩)
          | fail)
        go_ret
        exact ⟨rfl, below_step HBW.out HB3.out⟩
      by_cases hn2 : (l0.length : Int) < a1
      · have hd1 : decide (a1 < 1) = false := decide_eq_false hn1
        have hd2 : decide ((l0.length : Int) < a1) = true := decide_eq_true hn2
        have eg : allGot l0 a1 = [] := by unfold allGot; rw [if_neg (by omega)]
        rw [eg] at HC6 hc6 ⊢
        rw [hd2, Bool.true_and] at HI3
        go_wp2_with (first
          | (go_at_call 19; refine (octet_Reader_Fail.rd w1 _ g _ _ HI3.out).mono ?_; rintro e w7 ⟨rfl, rfl⟩)
          | (go_at_call 19; refine (octet_Reader_Fail.rd w1 _ g _ _ (HI3.out.drewN _)).mono ?_; rintro e w7 ⟨rfl, rfl⟩)
          | fail)
        go_ret
        exact ⟨rfl, below_step HBW.out HB3.out⟩
      have hd1 : decide (a1 < 1) = false := decide_eq_false hn1
      have hd2 : decide ((l0.length : Int) < a1) = false := decide_eq_false hn2
      obtain ⟨m, rfl⟩ : ∃ m : Nat, a1 = (m : Int) := ⟨a1.toNat, by omega⟩
      have eg : allGot l0 (m : Int) = l0.take m := by unfold allGot; rw [if_pos (by omega), Int.toNat_natCast]
      have etl : (l0.take m).length = m := by rw [List.length_take]; omega
      rw [eg] at HC6 hc6 ⊢
      rw [hd2, Bool.false_and] at HI3
      have HL := Aside0.mk (show l'.length = 2 * (l0.length - m) from by have := HL3.out (by omega); rwa [Int.toNat_natCast] at this)
      rw [etl] at hc6 HC6 ⊢
      go_wp2_with (first
        | (go_at_call 20; refine (octet_Reader_Left.rd w1 _ g _ false HI3.out).mono ?_; rintro e w7 ⟨rfl, rfl⟩; rw [HL.out])
        | (go_at_call 20; refine (octet_Reader_Left.rd w1 _ g _ false (HI3.out.drewN _)).mono ?_; rintro e w7 ⟨rfl, rfl⟩; rw [HL.out])
        | fail)
      go_loopw [9] (fun v9 wr => ∃ j : Nat, j ≤ m ∧ v9 = .int .i64 j ∧ Aside0 (Below w3.heap.size w3 wr)) (fun v9 _ => m - (intOf v9).toNat)
      case atStart => exact ⟨0, Nat.zero_le _, rfl, ⟨by first | exact Below.refl _ _ | exact pw_below_drewN (Below.refl _ _) _⟩⟩
      case round =>
        obtain ⟨j, hj, rfl, HB⟩ := hrel
        by_cases hlt : j < m
        · obtain ⟨adx, eax, hcx⟩ := Kd.at_int (Kd.C_below HC6.out HB.out) j (by omega) (by omega)
          obtain ⟨adl, eal, hcl⟩ := Kd.at_int (Kd.C_below (Kd.C_below HRW.out HB3.out) HB.out) j (by omega) (by omega)
          cases eax
          cases eal
          rw [Int.toNat_natCast] at hcx hcl
          have ex : rd (l0.take m) (j : Int) = rd l0 (j : Int) := by
            unfold rd
            rw [Int.toNat_natCast, List.getD_eq_getElem?_getD, List.getD_eq_getElem?_getD, List.getElem?_take_of_lt hlt]
          rw [ex] at hcx
          have hb0 := HW.out (rd l0 j) (by unfold rd; rw [Int.toNat_natCast, List.getD_eq_getElem?_getD, List.getElem?_eq_getElem (show j < l0.length by omega)]; exact List.getElem_mem (show j < l0.length by omega))
          have hjl : j < l0.length := by omega
          go_wp2_with fail
          go_quiet (fail)
          go_wp2_with fail
          exact ⟨⟨j + 1, by omega, by go_num, ⟨pw_below_drewN HB.out _⟩⟩, by simp [intOf]; omega⟩
        · obtain rfl : j = m := by omega
          go_wp2_with fail
          go_ret
          exact ⟨rfl, below_step HBW.out (below_step HB3.out HB.out)⟩

end Go.Proofs.Ytngahjgbeekldaa.P
