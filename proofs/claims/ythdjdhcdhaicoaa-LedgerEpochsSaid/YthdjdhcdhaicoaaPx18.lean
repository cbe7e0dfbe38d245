-- Laid by a program of this session (wip/print2).
import Derived.Test.YthdjdhcdhaicoaaPx0
namespace Go.Proofs.Ythdjdhcdhaicoaa.P
open Go.RowKit Go.Proofs.YthdjdhcdhaicoaaW.PrintWords Go.Proofs.YthdjdhcdhaicoaaW.PrintLast Go.Proofs.YthdjdhcdhaicoaaW.PrintMore
attribute [local go_sem] max2_int min2_int max_two min_two max_three min_three max_four min_four   -- for this text's walks alone
set_option linter.unusedVariables false
set_option linter.unusedSimpArgs false

/-! ### antiphonlaw26_rows: function 17 -/
def antiphonlaw26_rows.l0 : Nat → List (S46) → List (S56) → Int → Option ((List (S56)))
  | 0, _, _, _ => none
  | k + 1, x0, x3, x4 => if x4 < (x0.length : Int) then (if 0 ≤ x4 then (if x3.length < 1759218604441 then (antiphonlaw26_rows.l0 k x0 (x3 ++ [(⟨(rd_T46 x0 x4).f0, (rd_T46 x0 x4).f1, (⟨(rd_T46 x0 x4).f2.f0, (rd_T46 x0 x4).f2.f1, (rd_T46 x0 x4).f2.f2, (⟨(rd_T46 x0 x4).f2.f3.f0, (rd_T46 x0 x4).f2.f3.f1, (rd_T46 x0 x4).f2.f3.f2, (rd_T46 x0 x4).f2.f3.f3, (rd_T46 x0 x4).f2.f3.f4, (rd_T46 x0 x4).f2.f3.f5⟩ : S37), (rd_T46 x0 x4).f2.f4, (rd_T46 x0 x4).f2.f5⟩ : S44)⟩ : S56)]) (wrap64 (x4 + 1))) else (none)) else (none)) else (some x3)
def antiphonlaw26_rows.f (k : Nat) (l0 : List (S46)) : Option ((List (S56))) := antiphonlaw26_rows.l0 k l0 ([] : List (S56)) 0
theorem antiphonlaw26_rows.mono_l : ∀ k, (∀ y0 y1 y2, LeO (antiphonlaw26_rows.l0 k y0 y1 y2) (antiphonlaw26_rows.l0 (k + 1) y0 y1 y2))
  | 0 => fun _ _ _ r h => by simp [antiphonlaw26_rows.l0] at h
  | k + 1 => by
    have ih0 := antiphonlaw26_rows.mono_l k
    · intro y0 y1 y2
      unfold antiphonlaw26_rows.l0
      repeat' first
      | (with_reducible exact ih0 _ _ _)
      | (with_reducible exact LeO.refl _)
      | (with_reducible exact LeO.none _)
      | (with_reducible refine LeO.ite ?_ ?_)
      | (with_reducible refine LeO.bind ?_ (fun _ => ?_))
      | exact ih0 _ _ _
      | exact LeO.none _
      | refine LeO.ite ?_ ?_
      | refine LeO.bind ?_ (fun _ => ?_)
theorem antiphonlaw26_rows.mono : ∀ a0 k, LeO (antiphonlaw26_rows.f k a0) (antiphonlaw26_rows.f (k + 1) a0) := by
  intro a0 k
  have ih0 := antiphonlaw26_rows.mono_l k
  unfold antiphonlaw26_rows.f
  repeat' first
      | (with_reducible exact ih0 _ _ _)
      | (with_reducible exact LeO.refl _)
      | (with_reducible exact LeO.none _)
      | (with_reducible refine LeO.ite ?_ ?_)
      | (with_reducible refine LeO.bind ?_ (fun _ => ?_))
      | exact ih0 _ _ _
      | exact LeO.none _
      | refine LeO.ite ?_ ?_
      | refine LeO.bind ?_ (fun _ => ?_)
def antiphonlaw26_rows.T5 : Bool × List (List Nat × List Nat) := (true, [([], []), ([], []), ([], []), ([1, 2], [1, 2]), ([3], [3]), ([4], [4]), ([], []), ([], []), ([6, 7], [6, 7]), ([8], [8]), ([9], [9]), ([], []), ([], []), ([11, 12], [11, 12]), ([13], [13]), ([14], [14]), ([5, 10, 15], [5, 10, 15]), ([16], [16]), ([0, 17], [0, 17]), ([18, 18, 0, 1, 2, 3, 4, 5, 6, 7, 8, 9, 10, 11, 12, 13, 14, 15, 16, 17, 18], [0, 18])])
def antiphonlaw26_rows.B5 : List Nat := [0, 0, 0, 6, 14, 30, 0, 0, 192, 448, 960, 0, 0, 6144, 14336, 30720, 65534, 131070, 262143, 524287]
theorem antiphonlaw26_rows.tab5 : rtab .any (opsOf Try.f17 5) = antiphonlaw26_rows.T5 := by kernel_rfl
theorem antiphonlaw26_rows.bits5 : waitsOk antiphonlaw26_rows.T5.2 antiphonlaw26_rows.B5 = true := by kernel_rfl
set_option maxHeartbeats 8000000 in
set_option maxRecDepth 100000 in
theorem antiphonlaw26_rows.calls (k : Nat) (P0_ : Nat → Prop) (A0 : Option Addr) (c0 : Nat) (l0 : List (S46)) (r : List (S56)) (w : World) (hs0 : Kd.V k46 46 w w.heap.size (fun k_ => P0_ k_) (.slice A0 l0.length c0) l0) (h : antiphonlaw26_rows.f k l0 = some r) :
    Calls Try.prog 17 #[.slice A0 l0.length c0] w fun e w' => ∃ v0_ : Value, e = .returned (v0_) ∧ Kd.N k56 56 w' w.heap.size (fun k_ => (P0_ k_ ∨ w.heap.size ≤ k_)) v0_ r ∧ Below w.heap.size w w' := by
  have hu44 := Try.underlying44
  have hu56 := Try.underlying56
  have HO0 := Aside0.mk (show Kd.V k46 46 w w.heap.size (fun k_ => (P0_ k_ ∨ w.heap.size ≤ k_)) (.slice A0 l0.length c0) l0 from Kd.V_mono hs0 (fun k_ hk => .inl hk))
  have HB := Aside0.mk (Below.refl w.heap.size w)
  have H : (antiphonlaw26_rows.l0 k l0 ([] : List (S56)) 0) = some r := h
  clear h
  have H' := Aside0.mk H
  clear H
  go_enter Try.func17, Try.ntmps17
  go_wp2
  go_loopg [3, 4] k (fun kq v3 v4 w' => ∃ (x3_1 : List (S56)) (x4_1 : Int), v4 = .int .i64 x4_1 ∧ Aside0 (antiphonlaw26_rows.l0 kq l0 x3_1 x4_1 = some r) ∧ Aside0 (kq ≤ k) ∧ Aside0 (Kd.V k46 46 w' w.heap.size (fun k_ => (P0_ k_ ∨ w.heap.size ≤ k_) ∧ some k_ ≠ (v3 : Value).ownBlock) (.slice A0 l0.length c0) l0) ∧ Aside0 (Kd.N k56 56 w' w.heap.size (fun k_ => (P0_ k_ ∨ w.heap.size ≤ k_)) v3 x3_1) ∧ Aside0 (Below w.heap.size w w'))
  case atStart => exact ⟨(([] : List (S56))), (0), (by first | rfl | (simp; done) | (simp [*]; done)), H', ⟨Nat.le_refl _⟩, ⟨by (with_reducible repeat (first | apply Kd.V_alloc | apply Kd.V_drewN | apply Kd.V_drew)); exact Kd.V_mono HO0.out (fun _ hk => ⟨hk, (by simp [Value.ownBlock])⟩)⟩, ⟨by first | exact Kd.S_nil _ _ _ _ _ | exact Kd.N_nil _ _ _ _ _ | exact Kd.V_nil _ _ _ _ _ | exact Kd.Q_nil _ _ _ _ _ | exact Kd.R_nil _ _ _ _ _⟩, ⟨by repeat (first | (with_reducible first | exact HB.out | apply below_alloc | apply pw_below_drewN | apply below_drew1) | exact HB.out)⟩⟩
  case round =>
    clear H'
    try clear c1
    obtain ⟨x3_1, x4_1, rfl, HA, HK1, HO_0, HO_3, HB⟩ := hrel
    cases gk with
    | zero => exact absurd HA.out (by simp [antiphonlaw26_rows.l0])
    | succ k1 =>
      have H := HA.out
      clear HA
      simp only [antiphonlaw26_rows.l0] at H
      by_cases c2 : x4_1 < (l0.length : Int)
      · rw [if_pos c2] at H
        have c2b0 : decide (x4_1 < (l0.length : Int)) = true := decide_eq_true c2
        clear c2
        by_cases c3 : 0 ≤ x4_1
        · rw [if_pos c3] at H
          have c3b0 : decide (0 ≤ x4_1) = true := decide_eq_true c3
          clear c3
          by_cases c4 : x3_1.length < 1759218604441
          · rw [if_pos c4] at H
            have LMc4 := Aside0.mk c4
            clear c4
            obtain ⟨y104, hy104⟩ : ∃ y_ : List (S56), y_ = (x3_1 ++ [(⟨(rd_T46 l0 x4_1).f0, (rd_T46 l0 x4_1).f1, (⟨(rd_T46 l0 x4_1).f2.f0, (rd_T46 l0 x4_1).f2.f1, (rd_T46 l0 x4_1).f2.f2, (⟨(rd_T46 l0 x4_1).f2.f3.f0, (rd_T46 l0 x4_1).f2.f3.f1, (rd_T46 l0 x4_1).f2.f3.f2, (rd_T46 l0 x4_1).f2.f3.f3, (rd_T46 l0 x4_1).f2.f3.f4, (rd_T46 l0 x4_1).f2.f3.f5⟩ : S37), (rd_T46 l0 x4_1).f2.f4, (rd_T46 l0 x4_1).f2.f5⟩ : S44)⟩ : S56)]) := ⟨_, rfl⟩
            replace H : (antiphonlaw26_rows.l0 k1 l0 y104 (wrap64 (x4_1 + 1))) = some r := by first | (rw [hy104]; with_reducible exact H) | (have H2_ := (Option.bind_some _ _).symm.trans H; rw [hy104]; with_reducible exact H2_) | (have H2_ := (Option.bind_some _ _).symm.trans H; with_reducible exact H2_) | with_reducible exact H | (rw [hy104]; exact H) | exact H
            have Ny104 := Aside0.mk hy104
            clear hy104
            have H' := Aside0.mk H
            clear H
            try go_wp2
            have n0_ := Aside0.mk (Kd.V_drew HO_0.out)
            have n1_ := Aside0.mk (Kd.N_drew HO_3.out)
            have n2_ := Aside0.mk (below_drew1 HB.out)
            clear HO_0
            clear HO_3
            clear HB
            have HO_0 := n0_
            have HO_3 := n1_
            have HB := n2_
            clear n0_ n1_ n2_
            have p101 : 0 ≤ (x4_1 : Int) := of_decide_eq_true (by first | (with_reducible assumption) | assumption)
            have q101 : x4_1 < (l0.length : Int) := of_decide_eq_true (by first | (with_reducible assumption) | assumption)
            obtain ⟨ad101, A101_11, c101_11, e101, hx101_0, hx101_1, hx101_2, hx101_3, hx101_4, hx101_5, hx101_6, hx101_7, hx101_8, hx101_9, hx101_10, hx101_11, hx101_12, hl101_11, hi101_11⟩ := at_T46 (Kd.V_reads' HO_0.out).2.2 x4_1 p101 q101
            cases e101
            obtain ⟨ce101, hce101, hMe101, hcc101⟩ := Kd.V_get HO_0.out z46 x4_1 p101 (by first | exact q101 | exact of_decide_eq_true (by first | (with_reducible assumption) | assumption) | (have e_ := (Kd.V_reads' HO_0.out).1; omega))
            obtain ⟨ua101_11, uc101_11, rfl, ul101_11, ge101_11⟩ := k46_openF hMe101
            have hv101_11 := hcc101 11 _ rfl
            rw [add_field _ _ 11 (by omega)] at hv101_11
            replace hv101_11 := Option.some.inj (hv101_11.symm.trans hx101_11)
            injection hv101_11 with hva_ hvn_ hvc_
            rw [hva_] at ge101_11
            rw [hvc_] at ul101_11
            have HL101_11 := Aside0.mk (show Kd.V (Kd.int .u8) 5 _ w.heap.size _ _ ((rd_T46 l0 x4_1).f2.f4) from Kd.V_mk ul101_11 ge101_11)
            clear hva_ hvn_ hvc_ ge101_11 ul101_11
            clear hcc101 hce101
            have HR101_11 := Aside0.mk hi101_11
            have HC101_11 := Aside0.mk hl101_11
            clear hi101_11 hl101_11
            replace p101 := eq_true p101
            replace q101 := eq_true q101
            have p102 : 0 ≤ (x4_1 : Int) := of_decide_eq_true (by first | (with_reducible assumption) | assumption)
            have q102 : x4_1 < (l0.length : Int) := of_decide_eq_true (by first | (with_reducible assumption) | assumption)
            obtain ⟨ad102, A102_11, c102_11, e102, hx102_0, hx102_1, hx102_2, hx102_3, hx102_4, hx102_5, hx102_6, hx102_7, hx102_8, hx102_9, hx102_10, hx102_11, hx102_12, hl102_11, hi102_11⟩ := at_T46 (Kd.V_reads' HO_0.out).2.2 x4_1 p102 q102
            obtain rfl : ad101 = ad102 := (by injection e102)
            obtain ⟨ce102, hce102, hMe102, hcc102⟩ := Kd.V_get HO_0.out z46 x4_1 p102 (by first | exact q102 | exact of_decide_eq_true (by first | (with_reducible assumption) | assumption) | (have e_ := (Kd.V_reads' HO_0.out).1; omega))
            obtain ⟨ua102_11, uc102_11, rfl, ul102_11, ge102_11⟩ := k46_openF hMe102
            have hv102_11 := hcc102 11 _ rfl
            rw [add_field _ _ 11 (by omega)] at hv102_11
            replace hv102_11 := Option.some.inj (hv102_11.symm.trans hx102_11)
            injection hv102_11 with hva_ hvn_ hvc_
            rw [hva_] at ge102_11
            rw [hvc_] at ul102_11
            have HL102_11 := Aside0.mk (show Kd.V (Kd.int .u8) 5 _ w.heap.size _ _ ((rd_T46 l0 x4_1).f2.f4) from Kd.V_mk ul102_11 ge102_11)
            clear hva_ hvn_ hvc_ ge102_11 ul102_11
            clear hcc102 hce102
            have HR102_11 := Aside0.mk hi102_11
            have HC102_11 := Aside0.mk hl102_11
            clear hi102_11 hl102_11
            replace p102 := eq_true p102
            replace q102 := eq_true q102
            have ea_ := Option.some.inj (hx101_11.symm.trans hx102_11)
            injection ea_ with ea_ en_ ec_
            subst ea_
            subst ec_
            clear en_
            have p103 : 0 ≤ (x4_1 : Int) := of_decide_eq_true (by first | (with_reducible assumption) | assumption)
            have q103 : x4_1 < (l0.length : Int) := of_decide_eq_true (by first | (with_reducible assumption) | assumption)
            obtain ⟨ad103, A103_11, c103_11, e103, hx103_0, hx103_1, hx103_2, hx103_3, hx103_4, hx103_5, hx103_6, hx103_7, hx103_8, hx103_9, hx103_10, hx103_11, hx103_12, hl103_11, hi103_11⟩ := at_T46 (Kd.V_reads' HO_0.out).2.2 x4_1 p103 q103
            obtain rfl : ad101 = ad103 := (by injection e103)
            obtain ⟨ce103, hce103, hMe103, hcc103⟩ := Kd.V_get HO_0.out z46 x4_1 p103 (by first | exact q103 | exact of_decide_eq_true (by first | (with_reducible assumption) | assumption) | (have e_ := (Kd.V_reads' HO_0.out).1; omega))
            obtain ⟨ua103_11, uc103_11, rfl, ul103_11, ge103_11⟩ := k46_openF hMe103
            have hv103_11 := hcc103 11 _ rfl
            rw [add_field _ _ 11 (by omega)] at hv103_11
            replace hv103_11 := Option.some.inj (hv103_11.symm.trans hx103_11)
            injection hv103_11 with hva_ hvn_ hvc_
            rw [hva_] at ge103_11
            rw [hvc_] at ul103_11
            have HL103_11 := Aside0.mk (show Kd.V (Kd.int .u8) 5 _ w.heap.size _ _ ((rd_T46 l0 x4_1).f2.f4) from Kd.V_mk ul103_11 ge103_11)
            clear hva_ hvn_ hvc_ ge103_11 ul103_11
            clear hcc103 hce103
            have HR103_11 := Aside0.mk hi103_11
            have HC103_11 := Aside0.mk hl103_11
            clear hi103_11 hl103_11
            replace p103 := eq_true p103
            replace q103 := eq_true q103
            have ea_ := Option.some.inj (hx101_11.symm.trans hx103_11)
            injection ea_ with ea_ en_ ec_
            subst ea_
            subst ec_
            clear en_
            refine start_ (n := 20) (S := fun w' => w'.cell? (ad101.add ((x4_1).toNat * 13)) = some (.int .i64 ((rd_T46 l0 x4_1).f0)) ∧ w'.cell? ⟨(ad101.add ((x4_1).toNat * 13)).block, (ad101.add ((x4_1).toNat * 13)).off + 1, none⟩ = some (.int .i64 ((rd_T46 l0 x4_1).f1)) ∧ w'.cell? ⟨(ad101.add ((x4_1).toNat * 13)).block, (ad101.add ((x4_1).toNat * 13)).off + 2, none⟩ = some (.int .i64 ((rd_T46 l0 x4_1).f2.f0)) ∧ w'.cell? ⟨(ad101.add ((x4_1).toNat * 13)).block, (ad101.add ((x4_1).toNat * 13)).off + 3, none⟩ = some (.int .i64 ((rd_T46 l0 x4_1).f2.f1)) ∧ w'.cell? ⟨(ad101.add ((x4_1).toNat * 13)).block, (ad101.add ((x4_1).toNat * 13)).off + 4, none⟩ = some (.int .i64 ((rd_T46 l0 x4_1).f2.f2)) ∧ w'.cell? ⟨(ad101.add ((x4_1).toNat * 13)).block, (ad101.add ((x4_1).toNat * 13)).off + 5, none⟩ = some (.int .u8 ((rd_T46 l0 x4_1).f2.f3.f0)) ∧ w'.cell? ⟨(ad101.add ((x4_1).toNat * 13)).block, (ad101.add ((x4_1).toNat * 13)).off + 6, none⟩ = some (.int .u8 ((rd_T46 l0 x4_1).f2.f3.f1)) ∧ w'.cell? ⟨(ad101.add ((x4_1).toNat * 13)).block, (ad101.add ((x4_1).toNat * 13)).off + 7, none⟩ = some (.int .u8 ((rd_T46 l0 x4_1).f2.f3.f2)) ∧ w'.cell? ⟨(ad101.add ((x4_1).toNat * 13)).block, (ad101.add ((x4_1).toNat * 13)).off + 8, none⟩ = some (.int .u8 ((rd_T46 l0 x4_1).f2.f3.f3)) ∧ w'.cell? ⟨(ad101.add ((x4_1).toNat * 13)).block, (ad101.add ((x4_1).toNat * 13)).off + 9, none⟩ = some (.int .u8 ((rd_T46 l0 x4_1).f2.f3.f4)) ∧ w'.cell? ⟨(ad101.add ((x4_1).toNat * 13)).block, (ad101.add ((x4_1).toNat * 13)).off + 10, none⟩ = some (.int .u8 ((rd_T46 l0 x4_1).f2.f3.f5)) ∧ w'.cell? ⟨(ad101.add ((x4_1).toNat * 13)).block, (ad101.add ((x4_1).toNat * 13)).off + 11, none⟩ = some (.slice A101_11 ((rd_T46 l0 x4_1).f2.f4).length c101_11) ∧ w'.cell? ⟨(ad101.add ((x4_1).toNat * 13)).block, (ad101.add ((x4_1).toNat * 13)).off + 12, none⟩ = some (.int .i64 ((rd_T46 l0 x4_1).f2.f5)) ∧ w'.cell? (ad101.add ((x4_1).toNat * 13)) = some (.int .i64 ((rd_T46 l0 x4_1).f0)) ∧ w'.cell? ⟨(ad101.add ((x4_1).toNat * 13)).block, (ad101.add ((x4_1).toNat * 13)).off + 1, none⟩ = some (.int .i64 ((rd_T46 l0 x4_1).f1)) ∧ w'.cell? ⟨(ad101.add ((x4_1).toNat * 13)).block, (ad101.add ((x4_1).toNat * 13)).off + 2, none⟩ = some (.int .i64 ((rd_T46 l0 x4_1).f2.f0)) ∧ w'.cell? ⟨(ad101.add ((x4_1).toNat * 13)).block, (ad101.add ((x4_1).toNat * 13)).off + 3, none⟩ = some (.int .i64 ((rd_T46 l0 x4_1).f2.f1)) ∧ w'.cell? ⟨(ad101.add ((x4_1).toNat * 13)).block, (ad101.add ((x4_1).toNat * 13)).off + 4, none⟩ = some (.int .i64 ((rd_T46 l0 x4_1).f2.f2)) ∧ w'.cell? ⟨(ad101.add ((x4_1).toNat * 13)).block, (ad101.add ((x4_1).toNat * 13)).off + 5, none⟩ = some (.int .u8 ((rd_T46 l0 x4_1).f2.f3.f0)) ∧ w'.cell? ⟨(ad101.add ((x4_1).toNat * 13)).block, (ad101.add ((x4_1).toNat * 13)).off + 6, none⟩ = some (.int .u8 ((rd_T46 l0 x4_1).f2.f3.f1)) ∧ w'.cell? ⟨(ad101.add ((x4_1).toNat * 13)).block, (ad101.add ((x4_1).toNat * 13)).off + 7, none⟩ = some (.int .u8 ((rd_T46 l0 x4_1).f2.f3.f2)) ∧ w'.cell? ⟨(ad101.add ((x4_1).toNat * 13)).block, (ad101.add ((x4_1).toNat * 13)).off + 8, none⟩ = some (.int .u8 ((rd_T46 l0 x4_1).f2.f3.f3)) ∧ w'.cell? ⟨(ad101.add ((x4_1).toNat * 13)).block, (ad101.add ((x4_1).toNat * 13)).off + 9, none⟩ = some (.int .u8 ((rd_T46 l0 x4_1).f2.f3.f4)) ∧ w'.cell? ⟨(ad101.add ((x4_1).toNat * 13)).block, (ad101.add ((x4_1).toNat * 13)).off + 10, none⟩ = some (.int .u8 ((rd_T46 l0 x4_1).f2.f3.f5)) ∧ w'.cell? ⟨(ad101.add ((x4_1).toNat * 13)).block, (ad101.add ((x4_1).toNat * 13)).off + 11, none⟩ = some (.slice A101_11 ((rd_T46 l0 x4_1).f2.f4).length c101_11) ∧ w'.cell? ⟨(ad101.add ((x4_1).toNat * 13)).block, (ad101.add ((x4_1).toNat * 13)).off + 12, none⟩ = some (.int .i64 ((rd_T46 l0 x4_1).f2.f5)) ∧ w'.cell? (ad101.add ((x4_1).toNat * 13)) = some (.int .i64 ((rd_T46 l0 x4_1).f0)) ∧ w'.cell? ⟨(ad101.add ((x4_1).toNat * 13)).block, (ad101.add ((x4_1).toNat * 13)).off + 1, none⟩ = some (.int .i64 ((rd_T46 l0 x4_1).f1)) ∧ w'.cell? ⟨(ad101.add ((x4_1).toNat * 13)).block, (ad101.add ((x4_1).toNat * 13)).off + 2, none⟩ = some (.int .i64 ((rd_T46 l0 x4_1).f2.f0)) ∧ w'.cell? ⟨(ad101.add ((x4_1).toNat * 13)).block, (ad101.add ((x4_1).toNat * 13)).off + 3, none⟩ = some (.int .i64 ((rd_T46 l0 x4_1).f2.f1)) ∧ w'.cell? ⟨(ad101.add ((x4_1).toNat * 13)).block, (ad101.add ((x4_1).toNat * 13)).off + 4, none⟩ = some (.int .i64 ((rd_T46 l0 x4_1).f2.f2)) ∧ w'.cell? ⟨(ad101.add ((x4_1).toNat * 13)).block, (ad101.add ((x4_1).toNat * 13)).off + 5, none⟩ = some (.int .u8 ((rd_T46 l0 x4_1).f2.f3.f0)) ∧ w'.cell? ⟨(ad101.add ((x4_1).toNat * 13)).block, (ad101.add ((x4_1).toNat * 13)).off + 6, none⟩ = some (.int .u8 ((rd_T46 l0 x4_1).f2.f3.f1)) ∧ w'.cell? ⟨(ad101.add ((x4_1).toNat * 13)).block, (ad101.add ((x4_1).toNat * 13)).off + 7, none⟩ = some (.int .u8 ((rd_T46 l0 x4_1).f2.f3.f2)) ∧ w'.cell? ⟨(ad101.add ((x4_1).toNat * 13)).block, (ad101.add ((x4_1).toNat * 13)).off + 8, none⟩ = some (.int .u8 ((rd_T46 l0 x4_1).f2.f3.f3)) ∧ w'.cell? ⟨(ad101.add ((x4_1).toNat * 13)).block, (ad101.add ((x4_1).toNat * 13)).off + 9, none⟩ = some (.int .u8 ((rd_T46 l0 x4_1).f2.f3.f4)) ∧ w'.cell? ⟨(ad101.add ((x4_1).toNat * 13)).block, (ad101.add ((x4_1).toNat * 13)).off + 10, none⟩ = some (.int .u8 ((rd_T46 l0 x4_1).f2.f3.f5)) ∧ w'.cell? ⟨(ad101.add ((x4_1).toNat * 13)).block, (ad101.add ((x4_1).toNat * 13)).off + 11, none⟩ = some (.slice A101_11 ((rd_T46 l0 x4_1).f2.f4).length c101_11) ∧ w'.cell? ⟨(ad101.add ((x4_1).toNat * 13)).block, (ad101.add ((x4_1).toNat * 13)).off + 12, none⟩ = some (.int .i64 ((rd_T46 l0 x4_1).f2.f5))) (ds := [17, 18]) #[false, false, false, false, false, false, false, false, false, false, false, false, false, false, false, false, false, false, false, false] (by kernel_rfl) rfl rfl ⟨hx101_0, hx101_1, hx101_2, hx101_3, hx101_4, hx101_5, hx101_6, hx101_7, hx101_8, hx101_9, hx101_10, hx101_11, hx101_12, hx102_0, hx102_1, hx102_2, hx102_3, hx102_4, hx102_5, hx102_6, hx102_7, hx102_8, hx102_9, hx102_10, hx102_11, hx102_12, hx103_0, hx103_1, hx103_2, hx103_3, hx103_4, hx103_5, hx103_6, hx103_7, hx103_8, hx103_9, hx103_10, hx103_11, hx103_12⟩ (fun hHeld => ?_); refine with_tabW antiphonlaw26_rows.tab5 antiphonlaw26_rows.bits5 (fun HT_ HW_ => ?_)
            generalize wr.drew = w5 at HO_0 HO_3 HB HL101_11 HL102_11 HL103_11 HR101_11 HR102_11 HR103_11 hx101_0 hx101_1 hx101_10 hx101_11 hx101_12 hx101_2 hx101_3 hx101_4 hx101_5 hx101_6 hx101_7 hx101_8 hx101_9 hx102_0 hx102_1 hx102_10 hx102_11 hx102_12 hx102_2 hx102_3 hx102_4 hx102_5 hx102_6 hx102_7 hx102_8 hx102_9 hx103_0 hx103_1 hx103_10 hx103_11 hx103_12 hx103_2 hx103_3 hx103_4 hx103_5 hx103_6 hx103_7 hx103_8 hx103_9 hHeld ⊢
            refine pure_ (i := 0) (N := some 11) (v := ?_) (a' := ?_) #[true, false, false, false, false, false, false, false, false, false, false, false, false, false, false, false, false, false, false, false] rfl rfl (any_of HT_.out (by kernel_rfl)) (fun _ _ _ h => h) (Or.inl ⟨by rfl, ?_⟩) ?_ ?_
            rotate_left
            · intro w'
              go_simp
              with_reducible rfl
            rotate_left
            · simp only [Act.put, List.setIfInBounds_toArray, List.set_cons_zero, List.set_cons_succ, i64_w, i32_w]
              rfl
            refine pure_ (i := 1) (N := some 12) (v := ?_) (a' := ?_) #[true, true, false, false, false, false, false, false, false, false, false, false, false, false, false, false, false, false, false, false] rfl rfl (any_of HT_.out (by kernel_rfl)) (fun _ _ _ h => h) (Or.inl ⟨by rfl, ?_⟩) ?_ ?_
            rotate_left
            · intro w'
              go_simp
              with_reducible rfl
            rotate_left
            · simp only [Act.put, List.setIfInBounds_toArray, List.set_cons_zero, List.set_cons_succ, i64_w, i32_w]
              rfl
            refine pure_ (i := 2) (N := some 13) (v := ?_) (a' := ?_) #[true, true, true, false, false, false, false, false, false, false, false, false, false, false, false, false, false, false, false, false] rfl rfl (any_of HT_.out (by kernel_rfl)) (fun _ _ _ h => h) (Or.inl ⟨by rfl, ?_⟩) ?_ ?_
            rotate_left
            · intro w'
              go_simp
              with_reducible rfl
            rotate_left
            · simp only [Act.put, List.setIfInBounds_toArray, List.set_cons_zero, List.set_cons_succ, i64_w, i32_w]
              rfl
            refine pure_ (i := 3) (N := some 14) (v := ?_) (a' := ?_) #[true, true, true, true, false, false, false, false, false, false, false, false, false, false, false, false, false, false, false, false] rfl rfl (any_of HT_.out (by kernel_rfl)) (fun _ _ _ h => h) (Or.inl ⟨by rfl, ?_⟩) ?_ ?_
            rotate_left
            · intro w'
              go_simp
              with_reducible rfl
            rotate_left
            · simp only [Act.put, List.setIfInBounds_toArray, List.set_cons_zero, List.set_cons_succ, i64_w, i32_w]
              rfl
            refine pure_ (i := 4) (N := some 15) (v := ?_) (a' := ?_) #[true, true, true, true, true, false, false, false, false, false, false, false, false, false, false, false, false, false, false, false] rfl rfl (any_of HT_.out (by kernel_rfl)) (fun _ _ _ h => h) (Or.inl ⟨by rfl, ?_⟩) ?_ ?_
            rotate_left
            · intro w'
              go_simp
              with_reducible rfl
            rotate_left
            · simp only [Act.put, List.setIfInBounds_toArray, List.set_cons_zero, List.set_cons_succ, i64_w, i32_w]
              rfl
            refine pure_ (i := 6) (N := some 17) (v := ?_) (a' := ?_) #[true, true, true, true, true, false, true, false, false, false, false, false, false, false, false, false, false, false, false, false] rfl rfl (any_of HT_.out (by kernel_rfl)) (fun _ _ _ h => h) (Or.inl ⟨by rfl, ?_⟩) ?_ ?_
            rotate_left
            · intro w'
              go_simp
              with_reducible rfl
            rotate_left
            · simp only [Act.put, List.setIfInBounds_toArray, List.set_cons_zero, List.set_cons_succ, i64_w, i32_w]
              rfl
            refine pure_ (i := 7) (N := some 18) (v := ?_) (a' := ?_) #[true, true, true, true, true, false, true, true, false, false, false, false, false, false, false, false, false, false, false, false] rfl rfl (any_of HT_.out (by kernel_rfl)) (fun _ _ _ h => h) (Or.inl ⟨by rfl, ?_⟩) ?_ ?_
            rotate_left
            · intro w'
              go_simp
              with_reducible rfl
            rotate_left
            · simp only [Act.put, List.setIfInBounds_toArray, List.set_cons_zero, List.set_cons_succ, i64_w, i32_w]
              rfl
            refine pure_ (i := 8) (N := some 19) (v := ?_) (a' := ?_) #[true, true, true, true, true, false, true, true, true, false, false, false, false, false, false, false, false, false, false, false] rfl rfl (any_of HT_.out (by kernel_rfl)) (fun _ _ _ h => h) (Or.inl ⟨by rfl, ?_⟩) ?_ ?_
            rotate_left
            · intro w'
              go_simp
              with_reducible rfl
            rotate_left
            · simp only [Act.put, List.setIfInBounds_toArray, List.set_cons_zero, List.set_cons_succ, i64_w, i32_w]
              rfl
            refine pure_ (i := 9) (N := some 20) (v := ?_) (a' := ?_) #[true, true, true, true, true, false, true, true, true, true, false, false, false, false, false, false, false, false, false, false] rfl rfl (any_of HT_.out (by kernel_rfl)) (fun _ _ _ h => h) (Or.inl ⟨by rfl, ?_⟩) ?_ ?_
            rotate_left
            · intro w'
              go_simp
              with_reducible rfl
            rotate_left
            · simp only [Act.put, List.setIfInBounds_toArray, List.set_cons_zero, List.set_cons_succ, i64_w, i32_w]
              rfl
            refine pure_ (i := 11) (N := some 22) (v := ?_) (a' := ?_) #[true, true, true, true, true, false, true, true, true, true, false, true, false, false, false, false, false, false, false, false] rfl rfl (any_of HT_.out (by kernel_rfl)) (fun _ _ _ h => h) (Or.inl ⟨by rfl, ?_⟩) ?_ ?_
            rotate_left
            · intro w'
              go_simp
              with_reducible rfl
            rotate_left
            · simp only [Act.put, List.setIfInBounds_toArray, List.set_cons_zero, List.set_cons_succ, i64_w, i32_w]
              rfl
            refine pure_ (i := 12) (N := some 23) (v := ?_) (a' := ?_) #[true, true, true, true, true, false, true, true, true, true, false, true, true, false, false, false, false, false, false, false] rfl rfl (any_of HT_.out (by kernel_rfl)) (fun _ _ _ h => h) (Or.inl ⟨by rfl, ?_⟩) ?_ ?_
            rotate_left
            · intro w'
              go_simp
              with_reducible rfl
            rotate_left
            · simp only [Act.put, List.setIfInBounds_toArray, List.set_cons_zero, List.set_cons_succ, i64_w, i32_w]
              rfl
            refine pure_ (i := 13) (N := some 24) (v := ?_) (a' := ?_) #[true, true, true, true, true, false, true, true, true, true, false, true, true, true, false, false, false, false, false, false] rfl rfl (any_of HT_.out (by kernel_rfl)) (fun _ _ _ h => h) (Or.inl ⟨by rfl, ?_⟩) ?_ ?_
            rotate_left
            · intro w'
              go_simp
              with_reducible rfl
            rotate_left
            · simp only [Act.put, List.setIfInBounds_toArray, List.set_cons_zero, List.set_cons_succ, i64_w, i32_w]
              rfl
            refine pure_ (i := 14) (N := some 25) (v := ?_) (a' := ?_) #[true, true, true, true, true, false, true, true, true, true, false, true, true, true, true, false, false, false, false, false] rfl rfl (any_of HT_.out (by kernel_rfl)) (fun _ _ _ h => h) (Or.inl ⟨by rfl, ?_⟩) ?_ ?_
            rotate_left
            · intro w'
              go_simp
              with_reducible rfl
            rotate_left
            · simp only [Act.put, List.setIfInBounds_toArray, List.set_cons_zero, List.set_cons_succ, i64_w, i32_w]
              rfl
            refine take_ (i := 5) (N := some 16) (v := ?_) (a' := ?_) #[true, true, true, true, true, true, true, true, true, true, false, true, true, true, true, false, false, false, false, false] rfl rfl (take_ofW HT_.out HW_.out (by kernel_rfl)) (fun _ _ _ h => h) (Or.inl ⟨by rfl, ?_⟩) hHeld ?_ ?_
            rotate_left
            · rintro w' ⟨s0, s1, s2, s3, s4, s5, s6, s7, s8, s9, s10, s11, s12, s13, s14, s15, s16, s17, s18, s19, s20, s21, s22, s23, s24, s25, s26, s27, s28, s29, s30, s31, s32, s33, s34, s35, s36, s37, s38⟩
              go_simp
              with_reducible rfl
            rotate_left
            · simp only [Act.put, List.setIfInBounds_toArray, List.set_cons_zero, List.set_cons_succ, i64_w, i32_w]
              rfl
            refine take_ (i := 10) (N := some 21) (v := ?_) (a' := ?_) #[true, true, true, true, true, true, true, true, true, true, true, true, true, true, true, false, false, false, false, false] rfl rfl (take_ofW HT_.out HW_.out (by kernel_rfl)) (fun _ _ _ h => h) (Or.inl ⟨by rfl, ?_⟩) hHeld ?_ ?_
            rotate_left
            · rintro w' ⟨s0, s1, s2, s3, s4, s5, s6, s7, s8, s9, s10, s11, s12, s13, s14, s15, s16, s17, s18, s19, s20, s21, s22, s23, s24, s25, s26, s27, s28, s29, s30, s31, s32, s33, s34, s35, s36, s37, s38⟩
              go_simp
              with_reducible rfl
            rotate_left
            · simp only [Act.put, List.setIfInBounds_toArray, List.set_cons_zero, List.set_cons_succ, i64_w, i32_w]
              rfl
            refine take_ (i := 15) (N := some 26) (v := ?_) (a' := ?_) #[true, true, true, true, true, true, true, true, true, true, true, true, true, true, true, true, false, false, false, false] rfl rfl (take_ofW HT_.out HW_.out (by kernel_rfl)) (fun _ _ _ h => h) (Or.inl ⟨by rfl, ?_⟩) hHeld ?_ ?_
            rotate_left
            · rintro w' ⟨s0, s1, s2, s3, s4, s5, s6, s7, s8, s9, s10, s11, s12, s13, s14, s15, s16, s17, s18, s19, s20, s21, s22, s23, s24, s25, s26, s27, s28, s29, s30, s31, s32, s33, s34, s35, s36, s37, s38⟩
              go_simp
              with_reducible rfl
            rotate_left
            · simp only [Act.put, List.setIfInBounds_toArray, List.set_cons_zero, List.set_cons_succ, i64_w, i32_w]
              rfl
            refine pure_ (i := 16) (N := some 27) (v := ?_) (a' := ?_) #[true, true, true, true, true, true, true, true, true, true, true, true, true, true, true, true, true, false, false, false] rfl rfl (any_of HT_.out (by kernel_rfl)) (fun _ _ _ h => h) (Or.inl ⟨by rfl, ?_⟩) ?_ ?_
            rotate_left
            · intro w'
              go_simp
              with_reducible rfl
            rotate_left
            · simp only [Act.put, List.setIfInBounds_toArray, List.set_cons_zero, List.set_cons_succ, i64_w, i32_w]
              rfl
            refine last_ (i := 17) (N := some 28) #[true, true, true, true, true, true, true, true, true, true, true, true, true, true, true, true, true, true, false, false] rfl rfl (one_of HT_.out (by kernel_rfl)) (by decide) (fun K hK => ?_)
            refine value_ (w1 := ?_) (v := ?_) (by rfl) rfl ?_ ?_
            rotate_left 2
            · go_simp
              constructor
              · rfl
              · rfl
            refine hK.out _ _ ?_
            clear hK K
            refine norm_ (a' := ?_) ?_ ?_
            rotate_left
            · show Act.put _ (some 28) _ = _
              simp only [Act.put, List.setIfInBounds_toArray, List.set_cons_zero, List.set_cons_succ, i64_w, i32_w]
              rfl
            refine last_ (i := 18) (N := some 29) #[true, true, true, true, true, true, true, true, true, true, true, true, true, true, true, true, true, true, true, false] rfl rfl (one_of HT_.out (by kernel_rfl)) (by decide) (fun K hK => ?_)
            refine Kd.N_append_step k56 (w0 := w) w.heap.size (by rfl) (.tmp 11) (.tmp 28) 40 56 (.agg #[(.int .i64 0), (.int .i64 0), (.int .i64 0), (.int .i64 0), (.int .i64 0), (.int .u8 0), (.int .u8 0), (.int .u8 0), (.int .u8 0), (.int .u8 0), (.int .u8 0), (.slice none 0 0), (.int .i64 0)]) 80 rfl Try.underlying40 info56 rfl (by decide) (by omega) u3 x3_1 (⟨(rd_T46 l0 x4_1).f0, (rd_T46 l0 x4_1).f1, (⟨(rd_T46 l0 x4_1).f2.f0, (rd_T46 l0 x4_1).f2.f1, (rd_T46 l0 x4_1).f2.f2, (⟨(rd_T46 l0 x4_1).f2.f3.f0, (rd_T46 l0 x4_1).f2.f3.f1, (rd_T46 l0 x4_1).f2.f3.f2, (rd_T46 l0 x4_1).f2.f3.f3, (rd_T46 l0 x4_1).f2.f3.f4, (rd_T46 l0 x4_1).f2.f3.f5⟩ : S37), (rd_T46 l0 x4_1).f2.f4, (rd_T46 l0 x4_1).f2.f5⟩ : S44)⟩ : S56) [.int .i64 ((rd_T46 l0 x4_1).f0), .int .i64 ((rd_T46 l0 x4_1).f1), .int .i64 ((rd_T46 l0 x4_1).f2.f0), .int .i64 ((rd_T46 l0 x4_1).f2.f1), .int .i64 ((rd_T46 l0 x4_1).f2.f2), .int .u8 ((rd_T46 l0 x4_1).f2.f3.f0), .int .u8 ((rd_T46 l0 x4_1).f2.f3.f1), .int .u8 ((rd_T46 l0 x4_1).f2.f3.f2), .int .u8 ((rd_T46 l0 x4_1).f2.f3.f3), .int .u8 ((rd_T46 l0 x4_1).f2.f3.f4), .int .u8 ((rd_T46 l0 x4_1).f2.f3.f5), .slice A101_11 ((rd_T46 l0 x4_1).f2.f4).length c101_11, .int .i64 ((rd_T46 l0 x4_1).f2.f5)] (fun k_ => (P0_ k_ ∨ w.heap.size ≤ k_)) (fun k_ => ((fun k_ => (P0_ k_ ∨ w.heap.size ≤ k_))) k_ ∧ some k_ ≠ (u3 : Value).ownBlock) rfl rfl ?aP (fun _ hk => hk) ?aF ?aO ?aB ?aS ?aL ?_
            (case aP => exact (k56_mkF _ _ (⟨(rd_T46 l0 x4_1).f0, (rd_T46 l0 x4_1).f1, (⟨(rd_T46 l0 x4_1).f2.f0, (rd_T46 l0 x4_1).f2.f1, (rd_T46 l0 x4_1).f2.f2, (⟨(rd_T46 l0 x4_1).f2.f3.f0, (rd_T46 l0 x4_1).f2.f3.f1, (rd_T46 l0 x4_1).f2.f3.f2, (rd_T46 l0 x4_1).f2.f3.f3, (rd_T46 l0 x4_1).f2.f3.f4, (rd_T46 l0 x4_1).f2.f3.f5⟩ : S37), (rd_T46 l0 x4_1).f2.f4, (rd_T46 l0 x4_1).f2.f5⟩ : S44)⟩ : S56) (Kd.V_reads' (Kd.V_mono (ok' := (fun k_ => ((fun k_ => (P0_ k_ ∨ w.heap.size ≤ k_))) k_ ∧ some k_ ≠ (u3 : Value).ownBlock)) (HL103_11.out) (fun k_ hk => ⟨hk.1, hk.2⟩))).2.1 (Kd.V_F (Kd.V_mono (ok' := (fun k_ => ((fun k_ => (P0_ k_ ∨ w.heap.size ≤ k_))) k_ ∧ some k_ ≠ (u3 : Value).ownBlock)) (HL103_11.out) (fun k_ hk => ⟨hk.1, hk.2⟩)))))
            (case aB => exact (by repeat (first | (with_reducible first | exact HB.out | apply below_alloc | apply pw_below_drewN | apply below_drew1) | exact HB.out)))
            (case aF => exact (fun k_ hk => (.inr (Nat.le_trans (below_size (by repeat (first | (with_reducible first | exact HB.out | apply below_alloc | apply pw_below_drewN | apply below_drew1) | exact HB.out))) hk))))
            (case aO => exact (by (with_reducible repeat (first | apply Kd.N_alloc | apply Kd.N_drewN | apply Kd.N_drew)); exact HO_3.out))
            (case aS => exact (below_size (by repeat (first | (with_reducible first | exact HB.out | apply below_alloc | apply pw_below_drewN | apply below_drew1) | exact HB.out))))
            (case aL => have := LMc4.out; omega)
            intro v105 w6 ho hb hg hat
            rw [← Ny104.out] at ho
            have n0_ := Aside0.mk (Kd.V_afterv (ok := (fun k_ => (P0_ k_ ∨ w.heap.size ≤ k_))) (by (with_reducible repeat (first | apply Kd.V_alloc | apply Kd.V_drewN | apply Kd.V_drew)); exact HO_0.out) hg hat)
            have n1_ := Aside0.mk (Kd.V_afterv (ok := (fun k_ => (P0_ k_ ∨ w.heap.size ≤ k_))) (by (with_reducible repeat (first | apply Kd.V_alloc | apply Kd.V_drewN | apply Kd.V_drew)); exact HL101_11.out) hg hat)
            have n2_ := Aside0.mk (Kd.V_afterv (ok := (fun k_ => (P0_ k_ ∨ w.heap.size ≤ k_))) (by (with_reducible repeat (first | apply Kd.V_alloc | apply Kd.V_drewN | apply Kd.V_drew)); exact HL102_11.out) hg hat)
            have n3_ := Aside0.mk (Kd.V_afterv (ok := (fun k_ => (P0_ k_ ∨ w.heap.size ≤ k_))) (by (with_reducible repeat (first | apply Kd.V_alloc | apply Kd.V_drewN | apply Kd.V_drew)); exact HL103_11.out) hg hat)
            have n4_ := Aside0.mk (hb)
            have n5_ := Aside0.mk (ho)
            clear HO_0
            clear HL101_11
            clear HL102_11
            clear HL103_11
            clear HB
            clear HO_3
            have HO_0 := n0_
            have HL101_11 := n1_
            have HL102_11 := n2_
            have HL103_11 := n3_
            have HB := n4_
            have HO106 := n5_
            clear n0_ n1_ n2_ n3_ n4_ n5_
            clear ho hb hg hat
            refine hK.out _ _ ?_
            clear hK K
            refine norm_ (a' := ?_) ?_ ?_
            rotate_left
            · show Act.put _ (some 29) _ = _
              simp only [Act.put, List.setIfInBounds_toArray, List.set_cons_zero, List.set_cons_succ, i64_w, i32_w]
              rfl
            refine pure_ (i := 19) (N := some 3) (v := ?_) (a' := ?_) #[true, true, true, true, true, true, true, true, true, true, true, true, true, true, true, true, true, true, true, true] rfl rfl (any_of HT_.out (by kernel_rfl)) (fun _ _ _ h => h) (Or.inl ⟨by rfl, ?_⟩) ?_ ?_
            rotate_left
            · intro w'
              go_simp
              with_reducible rfl
            rotate_left
            · simp only [Act.put, List.setIfInBounds_toArray, List.set_cons_zero, List.set_cons_succ, i64_w, i32_w]
              rfl
            refine done_ (done_of HT_.out (by kernel_rfl)) ?_
            try go_wp2
            go_roundg k1
            case measure => have := HK1.out; omega
            case rel => exact ⟨(y104), (wrap64 (x4_1 + 1)), (by first | rfl | (simp; done) | (simp [*]; done)), H', ⟨by have := HK1.out; omega⟩, ⟨by (with_reducible repeat (first | apply Kd.V_alloc | apply Kd.V_drewN | apply Kd.V_drew)); exact HO_0.out⟩, ⟨by (with_reducible repeat (first | apply Kd.N_alloc | apply Kd.N_drewN | apply Kd.N_drew)); exact HO106.out⟩, ⟨by repeat (first | (with_reducible first | exact HB.out | apply below_alloc | apply pw_below_drewN | apply below_drew1) | exact HB.out)⟩⟩
          · rw [if_neg c4] at H
            exact absurd H (by simp)
        · rw [if_neg c3] at H
          exact absurd H (by simp)
      · rw [if_neg c2] at H
        have c2b0 : decide (x4_1 < (l0.length : Int)) = false := decide_eq_false c2
        clear c2
        obtain rfl := Option.some.inj H
        go_wp2
        go_ret
        exact ⟨_, by first | rfl | (simp [errW_none, errW_some] <;> rfl) | (simp [*, errW_none, errW_some] <;> rfl), by (with_reducible repeat (first | apply Kd.N_alloc | apply Kd.N_drewN | apply Kd.N_drew)); exact HO_3.out, by repeat (first | (with_reducible first | exact HB.out | apply below_alloc | apply pw_below_drewN | apply below_drew1) | exact HB.out)⟩

end Go.Proofs.Ythdjdhcdhaicoaa.P
