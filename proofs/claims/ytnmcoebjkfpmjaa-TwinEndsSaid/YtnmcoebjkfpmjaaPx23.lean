-- Written by this session: the walk of TwinEnds.
import Derived.Test.YtnmcoebjkfpmjaaPx21
namespace Go.Proofs.Ytnmcoebjkfpmjaa.P
open Go.RowKit Go.Proofs.YtnmcoebjkfpmjaaW.PrintWords Go.Proofs.YtnmcoebjkfpmjaaW.PrintLast Go.Proofs.YtnmcoebjkfpmjaaW.PrintMore
set_option linter.unusedVariables false
set_option linter.unusedSimpArgs false
/-- Who asks and hears nothing is alone just then; who hears itself is two: true. -/
def antiphonlaw14_TwinEnds.f (a0 a1 a2 : Int) : Option Bool := if (0 ≤ a0 ∧ a0 ≤ 255) ∧ (0 ≤ a1 ∧ a1 ≤ 255) ∧ (0 ≤ a2 ∧ a2 ≤ 255) then some true else none
theorem IsTw.other {W W1 : World} {g g' : Nat} {tr wa st se si : Int} (h : IsTw W g tr wa st se si) (hG : W.grownBy W1 (some g')) (hne : g ≠ g') : IsTw W1 g tr wa st se si := (hG.block g h.lt (fun e => hne (by injection e))).trans h
theorem ends_open {a0 a1 a2 : Int} {r : Bool} (h : antiphonlaw14_TwinEnds.f a0 a1 a2 = some r) : true = r ∧ (∃ n : Nat, 1 + a0 % 20 = (n : Int) ∧ 1 ≤ n ∧ n ≤ 20) ∧ (∃ n : Nat, 1 + a1 % 20 = (n : Int) ∧ 1 ≤ n ∧ n ≤ 20) ∧ 0 ≤ a2 ∧ a2 ≤ 255 ∧ 0 ≤ a0 ∧ a0 ≤ 255 ∧ 0 ≤ a1 ∧ a1 ≤ 255 := by
  unfold antiphonlaw14_TwinEnds.f at h
  by_cases hn : (0 ≤ a0 ∧ a0 ≤ 255) ∧ (0 ≤ a1 ∧ a1 ≤ 255) ∧ (0 ≤ a2 ∧ a2 ≤ 255)
  · rw [if_pos hn] at h
    exact ⟨Option.some.inj h, ⟨(1 + a0 % 20).toNat, by omega, by omega, by omega⟩, ⟨(1 + a1 % 20).toNat, by omega, by omega, by omega⟩, by omega, by omega, by omega, by omega, by omega, by omega⟩
  · rw [if_neg hn] at h; cases h
set_option maxHeartbeats 8000000 in
set_option maxRecDepth 100000 in
theorem antiphonlaw14_TwinEnds.calls (a0 a1 a2 : Int) (r : Bool) (w : World) (h : antiphonlaw14_TwinEnds.f a0 a1 a2 = some r) :
    Calls Try.prog 22 #[.int .u8 a0, .int .u8 a1, .int .u8 a2] w fun e w' => e = .returned (.bool r) ∧ Below w.heap.size w w' := by
  obtain ⟨rfl, ⟨n, en, n1, n2⟩, ⟨m, em, m1, m2⟩, c0, c1, b0, b1, b2, b3⟩ := ends_open h
  clear h
  have HMAY := Aside0.mk (show pdu_May.f 10 0 0 true 2 2 0 0 true [] = some true by decide +kernel)
  have hN400 : n * m ≤ 400 := Nat.mul_le_mul n2 m2
  have hN1 : 1 ≤ n * m := Nat.mul_le_mul n1 m1
  obtain ⟨N, eN⟩ : ∃ N : Nat, n * m = N := ⟨_, rfl⟩
  rw [eN] at hN400 hN1
  have hNI : (n : Int) * (m : Int) = (N : Int) := by rw [← eN]; simp
  have HN := Aside0.mk eN
  have hW : IntKind.i64.wrap (N : Int) = (N : Int) := by rw [i64_w]; unfold wrap64; omega
  clear eN
  obtain ⟨T, eT, hT_⟩ : ∃ T : Nat, a2 % (N : Int) = (T : Int) ∧ T < N := by
    have h1 := Int.emod_nonneg a2 (show (N : Int) ≠ 0 by omega)
    have h2 := Int.emod_lt_of_pos a2 (show (0 : Int) < (N : Int) by omega)
    exact ⟨(a2 % (N : Int)).toNat, by omega, by omega⟩
  go_enter Try.func22, Try.ntmps22
  go_wp2_with fail
  refine (antiphonlaw14_awake.calls _).mono ?_
  rintro e wa ⟨rfl, hBa⟩
  have HBa := Aside0.mk hBa
  clear hBa
  go_wp2_with fail
  refine (twin_New.yes _ (n : Int) (m : Int) (by omega) (by omega) (by omega) (by omega)).mono ?_
  rintro e w1 ⟨rfl, hB1, hT1⟩
  have hge : w.heap.size ≤ wa.heap.size := HBa.out.size
  generalize hg : wa.heap.size = g at hT1 hge
  have HB1 := Aside0.mk (below_step HBa.out hB1)
  have HT1 := Aside0.mk hT1
  clear hB1 hT1 hg
  go_wp2_with fail
  refine (twin_New.yes _ (n : Int) (m : Int) (by omega) (by omega) (by omega) (by omega)).mono ?_
  rintro e w2 ⟨rfl, hB2, hU2⟩
  have hne : g ≠ w1.heap.size := Nat.ne_of_lt HT1.out.lt
  have hgu : w.heap.size ≤ w1.heap.size := HB1.out.size
  have HT2 := Aside0.mk (HT1.out.below hB2)
  generalize hu_ : w1.heap.size = u at hU2 hne hgu
  have HB2 := Aside0.mk (below_step HB1.out hB2)
  have HU2 := Aside0.mk hU2
  clear hB2 hU2 hu_
  go_wp2_with fail
  refine (twin_Start.yes _ g (n : Int) (m : Int) 0 0 0 HT2.out (by omega) (by decide)).mono ?_
  rintro e w3 ⟨rfl, hT3, hG3⟩
  have HT3 := Aside0.mk hT3
  have HU3 := Aside0.mk (HU2.out.other hG3 (Ne.symm hne))
  have HB3 := Aside0.mk (below_tw HB2.out hG3 hge)
  clear hT3 hG3
  go_wp2_with fail
  refine (twin_Start.yes _ u (n : Int) (m : Int) 0 0 0 HU3.out (by omega) (by decide)).mono ?_
  rintro e w4 ⟨rfl, hU4, hG4⟩
  have HU4 := Aside0.mk hU4
  have HT4 := Aside0.mk (HT3.out.other hG4 hne)
  have HB4 := Aside0.mk (below_tw HB3.out hG4 hgu)
  clear hU4 hG4
  go_wp2_with fail
  rw [eT]
  clear eT
  go_loopw [13, 15] (fun v13 v15 wr => ∃ j : Nat, v15 = .int .i64 ((j : Int) + 1) ∧ ((∃ q s : Nat, j = q * m + s ∧ q < n ∧ s < m ∧ v13 = .int .i64 ((q : Int) + 1) ∧ Aside0 (IsTw wr g n m 1 ((q : Int) + 1) s) ∧ ((j ≤ T ∧ Aside0 (IsTw wr u n m 1 ((q : Int) + 1) s)) ∨ (T < j ∧ ∃ se si, Aside0 (IsTw wr u n m 3 se si)))) ∨ (j = N ∧ v13 = .int .i64 n ∧ (∃ se si, Aside0 (IsTw wr g n m 2 se si)) ∧ (∃ se si, Aside0 (IsTw wr u n m 3 se si)))) ∧ Aside0 (Below w.heap.size w wr)) (fun _ v15 _ => 500 - (intOf v15).toNat)
  case atStart => exact ⟨0, by go_num, .inl ⟨0, 0, by omega, by omega, by omega, by go_num, HT4, .inl ⟨Nat.zero_le _, HU4⟩⟩, HB4⟩
  case round =>
    obtain ⟨j, rfl, hrel, HB⟩ := hrel
    rcases hrel with ⟨q, s, hj, hq, hs, rfl, HT, hU⟩ | ⟨hjN, rfl, ⟨tse, tsi, HT⟩, hUU⟩
    · have HJ := Aside0.mk hj
      have hqm : (q + 1) * m ≤ n * m := Nat.mul_le_mul_right m hq
      rw [HN.out, Nat.add_mul, Nat.one_mul] at hqm
      have hjN : j + 1 ≤ N := by omega
      have hle : decide ((j : Int) + 1 ≤ (N : Int)) = true := decide_eq_true (by omega)
      have hle' : decide (j + 1 ≤ N) = true := decide_eq_true hjN
      by_cases hw : s + 1 < m
      · have di : ((j : Int) + 1 == (N : Int)) = false := by simp; omega
        have di' : ((j + 1 : Nat) == N) = false := by simp; omega
        clear hj
        rcases hU with ⟨hjT, HU⟩ | ⟨hjT, use, usi, HU⟩
        · by_cases hjt : j = T
          · subst hjt
            have dg : decide (j ≤ j) = true := decide_eq_true (Nat.le_refl j)
            go_wp2_with fail
            refine (twin_Tick.wait _ g n m ((q : Int) + 1) s HT.out (by omega) (by omega)).mono ?_
            rintro e w5 ⟨rfl, hT5, hG5⟩
            have HT5 := Aside0.mk hT5
            have HU5 := Aside0.mk (HU.out.other hG5 (Ne.symm hne))
            have HB5 := Aside0.mk (below_tw HB.out hG5 hge)
            clear hT5 hG5
            go_wp2_with fail
            refine (twin_State.rd _ g n m 1 ((q : Int) + 1) ((s : Int) + 1) (HT5.out.below (below_alloc (Below.refl _ _) _))).mono ?_
            rintro e w6 ⟨rfl, rfl⟩
            go_wp2_with fail
            refine (twin_Hear.asks 10 _ u n m ((q : Int) + 1) s (HU5.out.below (below_alloc (Below.refl _ _) _)) 0 0 true 2 2 0 0 true none 0 [] true (Kd.C_nil _ _) (by decide) HMAY.out).mono ?_
            rintro e w7 ⟨rfl, hU7, hG7⟩
            have HU7 := Aside0.mk (show IsTw w7 u n m 3 ((q : Int) + 1) s from hU7)
            have HT7 := Aside0.mk (IsTw.other (HT5.out.below (below_alloc (Below.refl _ _) _)) hG7 hne)
            have HB7 := Aside0.mk (below_tw (below_alloc HB5.out _) hG7 hgu)
            have hans : (true && ansB 0 0 true 2 2 true) = true := rfl
            rw [hans]
            clear hU7 hG7
            go_wp2_with fail
            refine (twin_Tick.idle _ u n m 3 ((q : Int) + 1) s HU7.out (by decide)).mono ?_
            rintro e w8 ⟨rfl, hU8, hG8⟩
            have HU8 := Aside0.mk hU8
            have HT8 := Aside0.mk (HT7.out.other hG8 hne)
            have HB8 := Aside0.mk (below_tw HB7.out hG8 hgu)
            clear hU8 hG8
            go_wp2_with (first
              | (go_at_call 73; refine (twin_State.rd _ u n m 3 ((q : Int) + 1) s HU8.out).mono ?_; rintro e w9 ⟨rfl, rfl⟩)
              | fail)
            have hj := HJ.out
            exact ⟨⟨j + 1, by go_num, .inl ⟨q, s + 1, by omega, hq, by omega, by go_num, ⟨by first | exact HT8.out | (simpa using HT8.out)⟩, .inr ⟨by omega, _, _, HU8⟩⟩, HB8⟩, by simp [intOf]; omega⟩
          · have dj : (j == T) = false := by simp [hjt]
            have dj' : ((j : Int) == (T : Int)) = false := by simp; omega
            have dg : decide (T ≤ j) = false := decide_eq_false (by omega)
            have dg' : decide ((T : Int) ≤ (j : Int)) = false := decide_eq_false (by omega)
            go_wp2_with fail
            refine (twin_Tick.wait _ g n m ((q : Int) + 1) s HT.out (by omega) (by omega)).mono ?_
            rintro e w5 ⟨rfl, hT5, hG5⟩
            have HT5 := Aside0.mk hT5
            have HU5 := Aside0.mk (HU.out.other hG5 (Ne.symm hne))
            have HB5 := Aside0.mk (below_tw HB.out hG5 hge)
            clear hT5 hG5
            go_wp2_with fail
            refine (twin_State.rd _ g n m 1 ((q : Int) + 1) ((s : Int) + 1) (HT5.out.below (below_alloc (Below.refl _ _) _))).mono ?_
            rintro e w6 ⟨rfl, rfl⟩
            go_wp2_with fail
            refine (twin_Tick.wait _ u n m ((q : Int) + 1) s (HU5.out.below (below_alloc (Below.refl _ _) _)) (by omega) (by omega)).mono ?_
            rintro e w8 ⟨rfl, hU8, hG8⟩
            have HU8 := Aside0.mk hU8
            have HT8 := Aside0.mk (IsTw.other (HT5.out.below (below_alloc (Below.refl _ _) _)) hG8 hne)
            have HB8 := Aside0.mk (below_tw (below_alloc HB5.out _) hG8 hgu)
            clear hU8 hG8
            go_wp2_with fail
            have HUw := Aside0.mk (show IsTw w8 u n m 1 ((q : Int) + 1) ((s + 1 : Nat) : Int) by first | exact HU8.out | (simpa using HU8.out))
            have hj := HJ.out
            exact ⟨⟨j + 1, by go_num, .inl ⟨q, s + 1, by omega, hq, by omega, by go_num, ⟨by first | exact HT8.out | (simpa using HT8.out)⟩, .inl ⟨by omega, HUw⟩⟩, HB8⟩, by simp [intOf]; omega⟩
        · have dj : (j == T) = false := by simp; omega
          have dj' : ((j : Int) == (T : Int)) = false := by simp; omega
          have dg : decide (T ≤ j) = true := decide_eq_true (by omega)
          have dg' : decide ((T : Int) ≤ (j : Int)) = true := decide_eq_true (by omega)
          go_wp2_with fail
          refine (twin_Tick.wait _ g n m ((q : Int) + 1) s HT.out (by omega) (by omega)).mono ?_
          rintro e w5 ⟨rfl, hT5, hG5⟩
          have HT5 := Aside0.mk hT5
          have HU5 := Aside0.mk (HU.out.other hG5 (Ne.symm hne))
          have HB5 := Aside0.mk (below_tw HB.out hG5 hge)
          clear hT5 hG5
          go_wp2_with fail
          refine (twin_State.rd _ g n m 1 ((q : Int) + 1) ((s : Int) + 1) (HT5.out.below (below_alloc (Below.refl _ _) _))).mono ?_
          rintro e w6 ⟨rfl, rfl⟩
          go_wp2_with fail
          refine (twin_Tick.idle _ u n m 3 use usi (HU5.out.below (below_alloc (Below.refl _ _) _)) (by decide)).mono ?_
          rintro e w8 ⟨rfl, hU8, hG8⟩
          have HU8 := Aside0.mk hU8
          have HT8 := Aside0.mk (IsTw.other (HT5.out.below (below_alloc (Below.refl _ _) _)) hG8 hne)
          have HB8 := Aside0.mk (below_tw (below_alloc HB5.out _) hG8 hgu)
          clear hU8 hG8
          go_wp2_with (first
            | (go_at_call 73; refine (twin_State.rd _ u n m 3 use usi HU8.out).mono ?_; rintro e w9 ⟨rfl, rfl⟩)
            | fail)
          have hj := HJ.out
          exact ⟨⟨j + 1, by go_num, .inl ⟨q, s + 1, by omega, hq, by omega, by go_num, ⟨by first | exact HT8.out | (simpa using HT8.out)⟩, .inr ⟨by omega, _, _, HU8⟩⟩, HB8⟩, by simp [intOf]; omega⟩
      have hsm : s + 1 = m := by omega
      have HSM := Aside0.mk hsm
      by_cases hqn : q + 1 = n
      · have hqN : q * m + m = N := by have := HN.out; rw [← hqn, Nat.add_mul, Nat.one_mul] at this; exact this
        have HQN := Aside0.mk hqn
        have HQ2 := Aside0.mk hqN
        have hjl : N ≤ j + 1 := by omega
        have di : ((j : Int) + 1 == (N : Int)) = true := by simp; omega
        have di' : ((j + 1 : Nat) == N) = true := by simp; omega
        have hwm : (m : Int) ≤ (s : Int) + 1 := by omega
        have hwn : (n : Int) ≤ (q : Int) + 1 := by omega
        clear hj hsm hqn hqN
        rcases hU with ⟨hjT, HU⟩ | ⟨hjT, use, usi, HU⟩
        · by_cases hjt : j = T
          · subst hjt
            have dg : decide (j ≤ j) = true := decide_eq_true (Nat.le_refl j)
            go_wp2_with fail
            refine (twin_Tick.alone _ g n m ((q : Int) + 1) s HT.out (by omega) (by omega) (by omega)).mono ?_
            rintro e w5 ⟨rfl, hT5, hG5⟩
            have HT5 := Aside0.mk hT5
            have HU5 := Aside0.mk (HU.out.other hG5 (Ne.symm hne))
            have HB5 := Aside0.mk (below_tw HB.out hG5 hge)
            clear hT5 hG5
            go_wp2_with fail
            refine (twin_State.rd _ g n m 2 ((q : Int) + 1) ((s : Int) + 1) (HT5.out.below (below_alloc (Below.refl _ _) _))).mono ?_
            rintro e w6 ⟨rfl, rfl⟩
            go_wp2_with fail
            refine (twin_Hear.asks 10 _ u n m ((q : Int) + 1) s (HU5.out.below (below_alloc (Below.refl _ _) _)) 0 0 true 2 2 0 0 true none 0 [] true (Kd.C_nil _ _) (by decide) HMAY.out).mono ?_
            rintro e w7 ⟨rfl, hU7, hG7⟩
            have HU7 := Aside0.mk (show IsTw w7 u n m 3 ((q : Int) + 1) s from hU7)
            have HT7 := Aside0.mk (IsTw.other (HT5.out.below (below_alloc (Below.refl _ _) _)) hG7 hne)
            have HB7 := Aside0.mk (below_tw (below_alloc HB5.out _) hG7 hgu)
            have hans : (true && ansB 0 0 true 2 2 true) = true := rfl
            rw [hans]
            clear hU7 hG7
            go_wp2_with fail
            refine (twin_Tick.idle _ u n m 3 ((q : Int) + 1) s HU7.out (by decide)).mono ?_
            rintro e w8 ⟨rfl, hU8, hG8⟩
            have HU8 := Aside0.mk hU8
            have HT8 := Aside0.mk (HT7.out.other hG8 hne)
            have HB8 := Aside0.mk (below_tw HB7.out hG8 hgu)
            clear hU8 hG8
            go_wp2_with (first
              | (go_at_call 73; refine (twin_State.rd _ u n m 3 ((q : Int) + 1) s HU8.out).mono ?_; rintro e w9 ⟨rfl, rfl⟩)
              | fail)
            have hj := HJ.out
            have hsm := HSM.out
            have hqn := HQN.out
            have hqN := HQ2.out
            exact ⟨⟨j + 1, by go_num, .inr ⟨by omega, congrArg (Value.int .i64) (by omega), ⟨_, _, HT8⟩, ⟨_, _, HU8⟩⟩, HB8⟩, by simp [intOf]; omega⟩
          · exfalso; omega
        · have dj : (j == T) = false := by simp; omega
          have dj' : ((j : Int) == (T : Int)) = false := by simp; omega
          have dg : decide (T ≤ j) = true := decide_eq_true (by omega)
          have dg' : decide ((T : Int) ≤ (j : Int)) = true := decide_eq_true (by omega)
          go_wp2_with fail
          refine (twin_Tick.alone _ g n m ((q : Int) + 1) s HT.out (by omega) (by omega) (by omega)).mono ?_
          rintro e w5 ⟨rfl, hT5, hG5⟩
          have HT5 := Aside0.mk hT5
          have HU5 := Aside0.mk (HU.out.other hG5 (Ne.symm hne))
          have HB5 := Aside0.mk (below_tw HB.out hG5 hge)
          clear hT5 hG5
          go_wp2_with fail
          refine (twin_State.rd _ g n m 2 ((q : Int) + 1) ((s : Int) + 1) (HT5.out.below (below_alloc (Below.refl _ _) _))).mono ?_
          rintro e w6 ⟨rfl, rfl⟩
          go_wp2_with fail
          refine (twin_Tick.idle _ u n m 3 use usi (HU5.out.below (below_alloc (Below.refl _ _) _)) (by decide)).mono ?_
          rintro e w8 ⟨rfl, hU8, hG8⟩
          have HU8 := Aside0.mk hU8
          have HT8 := Aside0.mk (IsTw.other (HT5.out.below (below_alloc (Below.refl _ _) _)) hG8 hne)
          have HB8 := Aside0.mk (below_tw (below_alloc HB5.out _) hG8 hgu)
          clear hU8 hG8
          go_wp2_with (first
            | (go_at_call 73; refine (twin_State.rd _ u n m 3 use usi HU8.out).mono ?_; rintro e w9 ⟨rfl, rfl⟩)
            | fail)
          have hj := HJ.out
          have hsm := HSM.out
          have hqn := HQN.out
          have hqN := HQ2.out
          exact ⟨⟨j + 1, by go_num, .inr ⟨by omega, congrArg (Value.int .i64) (by omega), ⟨_, _, HT8⟩, ⟨_, _, HU8⟩⟩, HB8⟩, by simp [intOf]; omega⟩
      · have hqm2 : (q + 1 + 1) * m ≤ n * m := Nat.mul_le_mul_right m (by omega)
        rw [HN.out, Nat.add_mul, Nat.add_mul, Nat.one_mul] at hqm2
        have di : ((j : Int) + 1 == (N : Int)) = false := by simp; omega
        have di' : ((j + 1 : Nat) == N) = false := by simp; omega
        have hwm : (m : Int) ≤ (s : Int) + 1 := by omega
        have hwn : (q : Int) + 1 < (n : Int) := by omega
        clear hj hsm
        rcases hU with ⟨hjT, HU⟩ | ⟨hjT, use, usi, HU⟩
        · by_cases hjt : j = T
          · subst hjt
            have dg : decide (j ≤ j) = true := decide_eq_true (Nat.le_refl j)
            go_wp2_with fail
            refine (twin_Tick.more _ g n m ((q : Int) + 1) s HT.out (by omega) (by omega) (by omega) (by omega)).mono ?_
            rintro e w5 ⟨rfl, hT5, hG5⟩
            have HT5 := Aside0.mk hT5
            have HU5 := Aside0.mk (HU.out.other hG5 (Ne.symm hne))
            have HB5 := Aside0.mk (below_tw HB.out hG5 hge)
            clear hT5 hG5
            go_wp2_with fail
            refine (twin_State.rd _ g n m 1 ((q : Int) + 1 + 1) 0 (HT5.out.below (below_alloc (Below.refl _ _) _))).mono ?_
            rintro e w6 ⟨rfl, rfl⟩
            go_wp2_with fail
            refine (twin_Hear.asks 10 _ u n m ((q : Int) + 1) s (HU5.out.below (below_alloc (Below.refl _ _) _)) 0 0 true 2 2 0 0 true none 0 [] true (Kd.C_nil _ _) (by decide) HMAY.out).mono ?_
            rintro e w7 ⟨rfl, hU7, hG7⟩
            have HU7 := Aside0.mk (show IsTw w7 u n m 3 ((q : Int) + 1) s from hU7)
            have HT7 := Aside0.mk (IsTw.other (HT5.out.below (below_alloc (Below.refl _ _) _)) hG7 hne)
            have HB7 := Aside0.mk (below_tw (below_alloc HB5.out _) hG7 hgu)
            have hans : (true && ansB 0 0 true 2 2 true) = true := rfl
            rw [hans]
            clear hU7 hG7
            go_wp2_with fail
            refine (twin_Tick.idle _ u n m 3 ((q : Int) + 1) s HU7.out (by decide)).mono ?_
            rintro e w8 ⟨rfl, hU8, hG8⟩
            have HU8 := Aside0.mk hU8
            have HT8 := Aside0.mk (HT7.out.other hG8 hne)
            have HB8 := Aside0.mk (below_tw HB7.out hG8 hgu)
            clear hU8 hG8
            go_wp2_with (first
              | (go_at_call 73; refine (twin_State.rd _ u n m 3 ((q : Int) + 1) s HU8.out).mono ?_; rintro e w9 ⟨rfl, rfl⟩)
              | fail)
            have hj := HJ.out
            have hsm := HSM.out
            exact ⟨⟨j + 1, by go_num, .inl ⟨q + 1, 0, by rw [Nat.add_mul]; omega, by omega, by omega, congrArg (Value.int .i64) (by push_cast; omega), ⟨by first | exact HT8.out | (simpa using HT8.out)⟩, .inr ⟨by omega, _, _, HU8⟩⟩, HB8⟩, by simp [intOf]; omega⟩
          · have dj : (j == T) = false := by simp [hjt]
            have dj' : ((j : Int) == (T : Int)) = false := by simp; omega
            have dg : decide (T ≤ j) = false := decide_eq_false (by omega)
            have dg' : decide ((T : Int) ≤ (j : Int)) = false := decide_eq_false (by omega)
            go_wp2_with fail
            refine (twin_Tick.more _ g n m ((q : Int) + 1) s HT.out (by omega) (by omega) (by omega) (by omega)).mono ?_
            rintro e w5 ⟨rfl, hT5, hG5⟩
            have HT5 := Aside0.mk hT5
            have HU5 := Aside0.mk (HU.out.other hG5 (Ne.symm hne))
            have HB5 := Aside0.mk (below_tw HB.out hG5 hge)
            clear hT5 hG5
            go_wp2_with fail
            refine (twin_State.rd _ g n m 1 ((q : Int) + 1 + 1) 0 (HT5.out.below (below_alloc (Below.refl _ _) _))).mono ?_
            rintro e w6 ⟨rfl, rfl⟩
            go_wp2_with fail
            refine (twin_Tick.more _ u n m ((q : Int) + 1) s (HU5.out.below (below_alloc (Below.refl _ _) _)) (by omega) (by omega) (by omega) (by omega)).mono ?_
            rintro e w8 ⟨rfl, hU8, hG8⟩
            have HU8 := Aside0.mk hU8
            have HT8 := Aside0.mk (IsTw.other (HT5.out.below (below_alloc (Below.refl _ _) _)) hG8 hne)
            have HB8 := Aside0.mk (below_tw (below_alloc HB5.out _) hG8 hgu)
            clear hU8 hG8
            go_wp2_with fail
            have HUm := Aside0.mk (show IsTw w8 u n m 1 (((q + 1 : Nat) : Int) + 1) ((0 : Nat) : Int) by first | exact HU8.out | (simpa using HU8.out))
            have hj := HJ.out
            have hsm := HSM.out
            exact ⟨⟨j + 1, by go_num, .inl ⟨q + 1, 0, by rw [Nat.add_mul]; omega, by omega, by omega, congrArg (Value.int .i64) (by push_cast; omega), ⟨by first | exact HT8.out | (simpa using HT8.out)⟩, .inl ⟨by omega, HUm⟩⟩, HB8⟩, by simp [intOf]; omega⟩
        · have dj : (j == T) = false := by simp; omega
          have dj' : ((j : Int) == (T : Int)) = false := by simp; omega
          have dg : decide (T ≤ j) = true := decide_eq_true (by omega)
          have dg' : decide ((T : Int) ≤ (j : Int)) = true := decide_eq_true (by omega)
          go_wp2_with fail
          refine (twin_Tick.more _ g n m ((q : Int) + 1) s HT.out (by omega) (by omega) (by omega) (by omega)).mono ?_
          rintro e w5 ⟨rfl, hT5, hG5⟩
          have HT5 := Aside0.mk hT5
          have HU5 := Aside0.mk (HU.out.other hG5 (Ne.symm hne))
          have HB5 := Aside0.mk (below_tw HB.out hG5 hge)
          clear hT5 hG5
          go_wp2_with fail
          refine (twin_State.rd _ g n m 1 ((q : Int) + 1 + 1) 0 (HT5.out.below (below_alloc (Below.refl _ _) _))).mono ?_
          rintro e w6 ⟨rfl, rfl⟩
          go_wp2_with fail
          refine (twin_Tick.idle _ u n m 3 use usi (HU5.out.below (below_alloc (Below.refl _ _) _)) (by decide)).mono ?_
          rintro e w8 ⟨rfl, hU8, hG8⟩
          have HU8 := Aside0.mk hU8
          have HT8 := Aside0.mk (IsTw.other (HT5.out.below (below_alloc (Below.refl _ _) _)) hG8 hne)
          have HB8 := Aside0.mk (below_tw (below_alloc HB5.out _) hG8 hgu)
          clear hU8 hG8
          go_wp2_with (first
            | (go_at_call 73; refine (twin_State.rd _ u n m 3 use usi HU8.out).mono ?_; rintro e w9 ⟨rfl, rfl⟩)
            | fail)
          have hj := HJ.out
          have hsm := HSM.out
          exact ⟨⟨j + 1, by go_num, .inl ⟨q + 1, 0, by rw [Nat.add_mul]; omega, by omega, by omega, congrArg (Value.int .i64) (by push_cast; omega), ⟨by first | exact HT8.out | (simpa using HT8.out)⟩, .inr ⟨by omega, _, _, HU8⟩⟩, HB8⟩, by simp [intOf]; omega⟩
    · have hle : decide ((j : Int) + 1 ≤ (N : Int)) = false := decide_eq_false (by omega)
      have hle' : decide (j + 1 ≤ N) = false := decide_eq_false (by omega)
      go_wp2_with fail
      refine (twin_Start.yes _ g n m 2 tse tsi HT.out (by omega) (by decide)).mono ?_
      rintro e w5 ⟨rfl, hT5, hG5⟩
      have HT5 := Aside0.mk hT5
      have HB5 := Aside0.mk (below_tw HB.out hG5 hge)
      clear hT5 hG5
      go_wp2_with (first
        | (go_at_call 73; refine (twin_State.rd _ g n m 1 1 0 (HT5.out.below (below_alloc (Below.refl _ _) _))).mono ?_; rintro e w9 ⟨rfl, rfl⟩)
        | fail)
      go_ret
      exact ⟨rfl, below_alloc HB5.out _⟩
end Go.Proofs.Ytnmcoebjkfpmjaa.P
