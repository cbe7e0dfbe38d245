-- Written by this session: the walk of TwinHears.
import Derived.Test.YtnmcoebjkfpmjaaPx21
import Derived.Test.YtnmcoebjkfpmjaaPx36
namespace Go.Proofs.Ytnmcoebjkfpmjaa.P
open Go.RowKit Go.Proofs.YtnmcoebjkfpmjaaW.PrintWords Go.Proofs.YtnmcoebjkfpmjaaW.PrintLast Go.Proofs.YtnmcoebjkfpmjaaW.PrintMore
set_option linter.unusedVariables false
set_option linter.unusedSimpArgs false
/-- While it does not ask, or of anything but its answer, nothing it hears changes how it stands: true. -/
def antiphonlaw14_TwinHears.f (k : Nat) (a0 a1 : Int) (a2_0 a2_1 : Int) (a2_2 : Bool) (a2_3 a2_4 a2_5 a2_6 : Int) (a2_7 : Bool) (l2_8 : List Int) : Option Bool :=
  if (0 ≤ a0 ∧ a0 ≤ 255) ∧ (0 ≤ a1 ∧ a1 ≤ 255) then (pdu_May.f k a2_0 a2_1 a2_2 a2_3 a2_4 a2_5 a2_6 a2_7 l2_8).bind fun m => (antiphonref6_May.f k a2_0 a2_1 a2_2 a2_3 a2_4 a2_5 a2_6 a2_7 l2_8).bind fun m' => if m = m' then some true else none else none
theorem hears_open {k : Nat} {a0 a1 : Int} {x0 x1 : Int} {x2 : Bool} {x3 x4 x5 x6 : Int} {x7 : Bool} {l : List Int} {r : Bool} (h : antiphonlaw14_TwinHears.f k a0 a1 x0 x1 x2 x3 x4 x5 x6 x7 l = some r) :
    ∃ m, true = r ∧ (0 ≤ a0 ∧ a0 ≤ 255) ∧ (0 ≤ a1 ∧ a1 ≤ 255) ∧ pdu_May.f k x0 x1 x2 x3 x4 x5 x6 x7 l = some m ∧ antiphonref6_May.f k x0 x1 x2 x3 x4 x5 x6 x7 l = some m := by
  unfold antiphonlaw14_TwinHears.f at h
  by_cases hn : (0 ≤ a0 ∧ a0 ≤ 255) ∧ (0 ≤ a1 ∧ a1 ≤ 255)
  case neg => rw [if_neg hn] at h; cases h
  rw [if_pos hn] at h
  obtain ⟨m, hm, h⟩ := Option.bind_eq_some_iff.mp h
  obtain ⟨m', hm', h⟩ := Option.bind_eq_some_iff.mp h
  by_cases hmm : m = m'
  case neg => rw [if_neg hmm] at h; cases h
  rw [if_pos hmm] at h
  subst hmm
  exact ⟨m, Option.some.inj h, hn.1, hn.2, hm, hm'⟩
set_option maxHeartbeats 8000000 in
set_option maxRecDepth 100000 in
theorem antiphonlaw14_TwinHears.calls (k : Nat) (a0 a1 : Int) (a2_0 a2_1 : Int) (a2_2 : Bool) (a2_3 a2_4 a2_5 a2_6 : Int) (a2_7 : Bool) (A2_8 : Option Addr) (c2_8 : Nat) (l2_8 : List Int) (r : Bool) (w : World) (hr2_8 : Kd.C (Kd.int .u8) w A2_8 l2_8.length l2_8) (hc2_8 : l2_8.length ≤ c2_8) (h : antiphonlaw14_TwinHears.f k a0 a1 a2_0 a2_1 a2_2 a2_3 a2_4 a2_5 a2_6 a2_7 l2_8 = some r) :
    Calls Try.prog 23 #[.int .u8 a0, .int .u8 a1, .agg #[.int .i64 a2_0, .int .i64 a2_1, .bool a2_2, .int .i64 a2_3, .int .i64 a2_4, .int .i64 a2_5, .int .i64 a2_6, .bool a2_7, .slice A2_8 l2_8.length c2_8]] w fun e w' => e = .returned (.bool r) ∧ Below w.heap.size w w' := by
  obtain ⟨m, rfl, ⟨n0, n1⟩, ⟨n2, n3⟩, hm, hm'⟩ := hears_open h
  have HR := Aside0.mk hr2_8
  have HC := Aside0.mk hc2_8
  have HM := Aside0.mk hm
  have HM' := Aside0.mk hm'
  clear h hm hm' hr2_8 hc2_8
  go_enter Try.func23, Try.ntmps23
  go_wp2_with fail
  refine (antiphonlaw14_awake.calls _).mono ?_
  rintro e wa ⟨rfl, hBa⟩
  have hpa := (hBa.block _ (blk_lt (blk_new w (.cells #[.int .i64 a2_0, .int .i64 a2_1, .bool a2_2, .int .i64 a2_3, .int .i64 a2_4, .int .i64 a2_5, .int .i64 a2_6, .bool a2_7, .slice A2_8 l2_8.length c2_8] 25)))).trans (blk_new w _)
  have HBa := Aside0.mk (below_step (below_alloc (Below.refl w.heap.size w) _) hBa)
  have HPa := Aside0.mk hpa
  have q8 : wa.cell? ⟨w.heap.size, 8, none⟩ = some (.slice A2_8 l2_8.length c2_8) := (blk_cell hpa 8).trans rfl
  clear hBa hpa
  by_cases hl : l2_8.length ≤ 2000
  case neg =>
    have hl' : decide (2000 < l2_8.length) = true := decide_eq_true (by omega)
    go_wp2_with fail
    go_ret
    exact ⟨rfl, HBa.out⟩
  have hl' : decide (2000 < l2_8.length) = false := decide_eq_false (by omega)
  have htr : ∃ tr : Int, 1 + a0 / 2 % 5 = tr ∧ 1 ≤ tr ∧ tr ≤ 5 := ⟨_, rfl, by omega, by omega⟩
  obtain ⟨tr, etr, tr0, tr1⟩ := htr
  go_wp2_with fail

  refine (twin_New.yes _ tr 3 (by omega) (by omega) (by decide) (by decide)).mono ?_
  rintro e w1 ⟨rfl, hB1, hT1⟩
  have hge : w.heap.size ≤ wa.heap.size := HBa.out.size
  have hpg : w.heap.size ≠ wa.heap.size := Nat.ne_of_lt (blk_lt HPa.out)
  have HP1 := Aside0.mk ((hB1.block _ (blk_lt HPa.out)).trans HPa.out)
  generalize hg : wa.heap.size = g at hT1 hge hpg
  have HB1 := Aside0.mk (below_step HBa.out hB1)
  have HT1 := Aside0.mk hT1
  clear hB1 hT1 etr q8
  obtain ⟨b, hb⟩ : ∃ b, (Go.bits .and .u8 a0 1 == 1) = b := ⟨_, rfl⟩
  cases b with
  | false =>
    go_wp2_with fail
    go_loopw [9] (fun v9 wr => ∃ (j : Nat) (st se si : Int), v9 = .int .i64 j ∧ j ≤ 20 ∧ (st = 0) ∧ (0 ≤ se ∧ se ≤ 6) ∧ (0 ≤ si ∧ si ≤ 3) ∧ Aside0 (IsTw wr g tr 3 st se si) ∧ Aside0 (wr.heap[w.heap.size]? = some (.cells #[.int .i64 a2_0, .int .i64 a2_1, .bool a2_2, .int .i64 a2_3, .int .i64 a2_4, .int .i64 a2_5, .int .i64 a2_6, .bool a2_7, .slice A2_8 l2_8.length c2_8] 25 (0, 0))) ∧ Aside0 (Below w.heap.size w wr)) (fun v9 _ => 20 - (intOf v9).toNat)
    case atStart => exact ⟨0, 0, 0, 0, rfl, by omega, rfl, by omega, by omega, HT1, HP1, HB1⟩
    case round =>
      obtain ⟨j, st, se, si, rfl, hj, hst, hse, hsi, HT, HP, HB⟩ := hrel
      by_cases hlt : (j : Int) < a1 % 20
      · have hd : decide ((j : Int) < a1 % 20) = true := decide_eq_true hlt
        have step : ∀ (W : World) (st' se' si' : Int), IsTw W g tr 3 st' se' si' → wr.grownBy W (some g) → (st' = 0) → (0 ≤ se' ∧ se' ≤ 6) → (0 ≤ si' ∧ si' ≤ 3) → ∃ (j' : Nat) (st se si : Int), Value.int .i64 ((j : Int) + 1) = .int .i64 j' ∧ j' ≤ 20 ∧ (st = 0) ∧ (0 ≤ se ∧ se ≤ 6) ∧ (0 ≤ si ∧ si ≤ 3) ∧ Aside0 (IsTw W g tr 3 st se si) ∧ Aside0 (W.heap[w.heap.size]? = some (.cells #[.int .i64 a2_0, .int .i64 a2_1, .bool a2_2, .int .i64 a2_3, .int .i64 a2_4, .int .i64 a2_5, .int .i64 a2_6, .bool a2_7, .slice A2_8 l2_8.length c2_8] 25 (0, 0))) ∧ Aside0 (Below w.heap.size w W) := by
          intro W st' se' si' hT hG h1 h2 h3
          exact ⟨j + 1, st', se', si', by go_num, by omega, h1, h2, h3, ⟨hT⟩, ⟨(hG.block _ (blk_lt HP.out) (fun e => hpg (by injection e))).trans HP.out⟩, ⟨below_tw HB.out hG hge⟩⟩
        have HS := Aside0.mk step
        clear step
        subst hst
        go_wp2_with fail
        refine (twin_Tick.idle _ g tr 3 0 se si HT.out (by decide)).mono ?_
        rintro e w4 ⟨rfl, hT4, hG4⟩
        have HS4 := Aside0.mk (HS.out w4 0 se si hT4 hG4 (by omega) (by omega) (by omega))
        clear hT4 hG4
        go_wp2_with fail
        exact ⟨HS4.out, by simp [intOf]; omega⟩

      · have hd : decide ((j : Int) < a1 % 20) = false := decide_eq_false hlt
        have HR4 := Aside0.mk (Kd.C_below HR.out HB.out)
        have q0 : wr.cell? ⟨w.heap.size, 0, none⟩ = some (.int .i64 a2_0) := (blk_cell HP.out 0).trans rfl
        have q1 : wr.cell? ⟨w.heap.size, 1, none⟩ = some (.int .i64 a2_1) := (blk_cell HP.out 1).trans rfl
        have q2 : wr.cell? ⟨w.heap.size, 2, none⟩ = some (.bool a2_2) := (blk_cell HP.out 2).trans rfl
        have q3 : wr.cell? ⟨w.heap.size, 3, none⟩ = some (.int .i64 a2_3) := (blk_cell HP.out 3).trans rfl
        have q4 : wr.cell? ⟨w.heap.size, 4, none⟩ = some (.int .i64 a2_4) := (blk_cell HP.out 4).trans rfl
        have q5 : wr.cell? ⟨w.heap.size, 5, none⟩ = some (.int .i64 a2_5) := (blk_cell HP.out 5).trans rfl
        have q6 : wr.cell? ⟨w.heap.size, 6, none⟩ = some (.int .i64 a2_6) := (blk_cell HP.out 6).trans rfl
        have q7 : wr.cell? ⟨w.heap.size, 7, none⟩ = some (.bool a2_7) := (blk_cell HP.out 7).trans rfl
        have q8 : wr.cell? ⟨w.heap.size, 8, none⟩ = some (.slice A2_8 l2_8.length c2_8) := (blk_cell HP.out 8).trans rfl
        subst hst
        go_wp2_with (first
          | (go_at_call 73; refine (twin_State.rd _ g tr 3 0 se si HT.out).mono ?_; rintro e w4 ⟨rfl, rfl⟩)
          | fail)
        refine (antiphonref6_May.calls k a2_0 a2_1 a2_2 a2_3 a2_4 a2_5 a2_6 a2_7 A2_8 c2_8 l2_8 m _ HR4.out HC.out HM'.out).mono ?_
        rintro e w5 ⟨rfl, hd⟩
        have hp5 := (hd.block _ (blk_lt HP.out)).trans HP.out
        have k0 : w5.cell? ⟨w.heap.size, 0, none⟩ = some (.int .i64 a2_0) := (blk_cell hp5 0).trans rfl
        have k1 : w5.cell? ⟨w.heap.size, 1, none⟩ = some (.int .i64 a2_1) := (blk_cell hp5 1).trans rfl
        have k2 : w5.cell? ⟨w.heap.size, 2, none⟩ = some (.bool a2_2) := (blk_cell hp5 2).trans rfl
        have k3 : w5.cell? ⟨w.heap.size, 3, none⟩ = some (.int .i64 a2_3) := (blk_cell hp5 3).trans rfl
        have k4 : w5.cell? ⟨w.heap.size, 4, none⟩ = some (.int .i64 a2_4) := (blk_cell hp5 4).trans rfl
        have k5 : w5.cell? ⟨w.heap.size, 5, none⟩ = some (.int .i64 a2_5) := (blk_cell hp5 5).trans rfl
        have k6 : w5.cell? ⟨w.heap.size, 6, none⟩ = some (.int .i64 a2_6) := (blk_cell hp5 6).trans rfl
        have k7 : w5.cell? ⟨w.heap.size, 7, none⟩ = some (.bool a2_7) := (blk_cell hp5 7).trans rfl
        have k8 : w5.cell? ⟨w.heap.size, 8, none⟩ = some (.slice A2_8 l2_8.length c2_8) := (blk_cell hp5 8).trans rfl
        have HT5 := Aside0.mk (HT.out.below hd)
        have HR5 := Aside0.mk (Kd.C_below HR4.out hd)
        have HB5 := Aside0.mk (below_step HB.out hd)
        clear hd hp5 q0 q1 q2 q3 q4 q5 q6 q7 q8
        cases m with
        | false =>
          go_wp2_with (first
            | (go_at_call 71; refine (twin_Hear.deaf _ g tr 3 0 se si HT5.out (by decide) a2_0 a2_1 a2_2 a2_3 a2_4 a2_5 a2_6 a2_7 (.slice A2_8 l2_8.length c2_8)).mono ?_; rintro e w6 ⟨rfl, hT6, hG6⟩; have HB6 := Aside0.mk (below_tw HB5.out hG6 hge); have HT6 := Aside0.mk hT6; clear hT6 hG6)
            | (go_at_call 73; refine (twin_State.rd _ g tr 3 0 se si HT6.out).mono ?_; rintro e w7 ⟨rfl, rfl⟩)
            | fail)
          go_ret
          exact ⟨rfl, HB6.out⟩
        | true =>
          by_cases h3 : a2_3 = 2
          case neg =>
            have e3 : (a2_3 == 2) = false := beq_eq_false_iff_ne.mpr h3
            go_wp2_with (first
              | (go_at_call 71; refine (twin_Hear.deaf _ g tr 3 0 se si HT5.out (by decide) a2_0 a2_1 a2_2 a2_3 a2_4 a2_5 a2_6 a2_7 (.slice A2_8 l2_8.length c2_8)).mono ?_; rintro e w6 ⟨rfl, hT6, hG6⟩; have HB6 := Aside0.mk (below_tw HB5.out hG6 hge); have HT6 := Aside0.mk hT6; clear hT6 hG6)
              | (go_at_call 73; refine (twin_State.rd _ g tr 3 0 se si HT6.out).mono ?_; rintro e w7 ⟨rfl, rfl⟩)
              | fail)
            go_ret
            exact ⟨rfl, HB6.out⟩
          subst h3
          by_cases h4 : a2_4 = 2
          case neg =>
            have e4 : (a2_4 == 2) = false := beq_eq_false_iff_ne.mpr h4
            go_wp2_with (first
              | (go_at_call 71; refine (twin_Hear.deaf _ g tr 3 0 se si HT5.out (by decide) a2_0 a2_1 a2_2 2 a2_4 a2_5 a2_6 a2_7 (.slice A2_8 l2_8.length c2_8)).mono ?_; rintro e w6 ⟨rfl, hT6, hG6⟩; have HB6 := Aside0.mk (below_tw HB5.out hG6 hge); have HT6 := Aside0.mk hT6; clear hT6 hG6)
              | (go_at_call 73; refine (twin_State.rd _ g tr 3 0 se si HT6.out).mono ?_; rintro e w7 ⟨rfl, rfl⟩)
              | fail)
            go_ret
            exact ⟨rfl, HB6.out⟩
          subst h4
          cases a2_2 with
          | false =>
            go_wp2_with (first
              | (go_at_call 71; refine (twin_Hear.deaf _ g tr 3 0 se si HT5.out (by decide) a2_0 a2_1 false 2 2 a2_5 a2_6 a2_7 (.slice A2_8 l2_8.length c2_8)).mono ?_; rintro e w6 ⟨rfl, hT6, hG6⟩; have HB6 := Aside0.mk (below_tw HB5.out hG6 hge); have HT6 := Aside0.mk hT6; clear hT6 hG6)
              | (go_at_call 73; refine (twin_State.rd _ g tr 3 0 se si HT6.out).mono ?_; rintro e w7 ⟨rfl, rfl⟩)
              | fail)
            go_ret
            exact ⟨rfl, HB6.out⟩
          | true =>
            cases a2_7 with
            | false =>
              go_wp2_with (first
                | (go_at_call 71; refine (twin_Hear.deaf _ g tr 3 0 se si HT5.out (by decide) a2_0 a2_1 true 2 2 a2_5 a2_6 false (.slice A2_8 l2_8.length c2_8)).mono ?_; rintro e w6 ⟨rfl, hT6, hG6⟩; have HB6 := Aside0.mk (below_tw HB5.out hG6 hge); have HT6 := Aside0.mk hT6; clear hT6 hG6)
                | (go_at_call 73; refine (twin_State.rd _ g tr 3 0 se si HT6.out).mono ?_; rintro e w7 ⟨rfl, rfl⟩)
                | fail)
              go_ret
              exact ⟨rfl, HB6.out⟩
            | true =>
              by_cases h0 : a2_0 = 0
              case neg =>
                have e0 : (a2_0 == 0) = false := beq_eq_false_iff_ne.mpr h0
                go_wp2_with (first
                  | (go_at_call 71; refine (twin_Hear.deaf _ g tr 3 0 se si HT5.out (by decide) a2_0 a2_1 true 2 2 a2_5 a2_6 true (.slice A2_8 l2_8.length c2_8)).mono ?_; rintro e w6 ⟨rfl, hT6, hG6⟩; have HB6 := Aside0.mk (below_tw HB5.out hG6 hge); have HT6 := Aside0.mk hT6; clear hT6 hG6)
                  | (go_at_call 73; refine (twin_State.rd _ g tr 3 0 se si HT6.out).mono ?_; rintro e w7 ⟨rfl, rfl⟩)
                  | fail)
                go_ret
                exact ⟨rfl, HB6.out⟩
              subst h0
              by_cases h1 : a2_1 = 0
              case neg =>
                have e1 : (a2_1 == 0) = false := beq_eq_false_iff_ne.mpr h1
                go_wp2_with (first
                  | (go_at_call 71; refine (twin_Hear.deaf _ g tr 3 0 se si HT5.out (by decide) 0 a2_1 true 2 2 a2_5 a2_6 true (.slice A2_8 l2_8.length c2_8)).mono ?_; rintro e w6 ⟨rfl, hT6, hG6⟩; have HB6 := Aside0.mk (below_tw HB5.out hG6 hge); have HT6 := Aside0.mk hT6; clear hT6 hG6)
                  | (go_at_call 73; refine (twin_State.rd _ g tr 3 0 se si HT6.out).mono ?_; rintro e w7 ⟨rfl, rfl⟩)
                  | fail)
                go_ret
                exact ⟨rfl, HB6.out⟩
              subst h1
              go_wp2_with (first
                | (go_at_call 71; refine (twin_Hear.deaf _ g tr 3 0 se si HT5.out (by decide) 0 0 true 2 2 a2_5 a2_6 true (.slice A2_8 l2_8.length c2_8)).mono ?_; rintro e w6 ⟨rfl, hT6, hG6⟩; have HB6 := Aside0.mk (below_tw HB5.out hG6 hge); have HT6 := Aside0.mk hT6; clear hT6 hG6)
                | (go_at_call 73; refine (twin_State.rd _ g tr 3 0 se si HT6.out).mono ?_; rintro e w7 ⟨rfl, rfl⟩)
                | fail)
              go_ret
              exact ⟨rfl, HB6.out⟩

  | true =>
    go_wp2_with fail
    refine (twin_Start.yes _ g tr 3 0 0 0 HT1.out (by omega) (by decide)).mono ?_
    rintro e w2 ⟨rfl, hT2, hG2⟩
    have HB2 := Aside0.mk (below_tw HB1.out hG2 hge)
    have HP2 := Aside0.mk ((hG2.block _ (blk_lt HP1.out) (fun e => hpg (by injection e))).trans HP1.out)
    have HT2 := Aside0.mk hT2
    clear hT2 hG2
    go_wp2_with fail
    go_loopw [9] (fun v9 wr => ∃ (j : Nat) (st se si : Int), v9 = .int .i64 j ∧ j ≤ 20 ∧ ((st = 1 ∧ si ≤ 2) ∨ st = 2) ∧ (0 ≤ se ∧ se ≤ 6) ∧ (0 ≤ si ∧ si ≤ 3) ∧ Aside0 (IsTw wr g tr 3 st se si) ∧ Aside0 (wr.heap[w.heap.size]? = some (.cells #[.int .i64 a2_0, .int .i64 a2_1, .bool a2_2, .int .i64 a2_3, .int .i64 a2_4, .int .i64 a2_5, .int .i64 a2_6, .bool a2_7, .slice A2_8 l2_8.length c2_8] 25 (0, 0))) ∧ Aside0 (Below w.heap.size w wr)) (fun v9 _ => 20 - (intOf v9).toNat)
    case atStart => exact ⟨0, 1, 1, 0, rfl, by omega, .inl ⟨rfl, by omega⟩, by omega, by omega, HT2, HP2, HB2⟩
    case round =>
      obtain ⟨j, st, se, si, rfl, hj, hst, hse, hsi, HT, HP, HB⟩ := hrel
      by_cases hlt : (j : Int) < a1 % 20
      · have hd : decide ((j : Int) < a1 % 20) = true := decide_eq_true hlt
        have step : ∀ (W : World) (st' se' si' : Int), IsTw W g tr 3 st' se' si' → wr.grownBy W (some g) → ((st' = 1 ∧ si' ≤ 2) ∨ st' = 2) → (0 ≤ se' ∧ se' ≤ 6) → (0 ≤ si' ∧ si' ≤ 3) → ∃ (j' : Nat) (st se si : Int), Value.int .i64 ((j : Int) + 1) = .int .i64 j' ∧ j' ≤ 20 ∧ ((st = 1 ∧ si ≤ 2) ∨ st = 2) ∧ (0 ≤ se ∧ se ≤ 6) ∧ (0 ≤ si ∧ si ≤ 3) ∧ Aside0 (IsTw W g tr 3 st se si) ∧ Aside0 (W.heap[w.heap.size]? = some (.cells #[.int .i64 a2_0, .int .i64 a2_1, .bool a2_2, .int .i64 a2_3, .int .i64 a2_4, .int .i64 a2_5, .int .i64 a2_6, .bool a2_7, .slice A2_8 l2_8.length c2_8] 25 (0, 0))) ∧ Aside0 (Below w.heap.size w W) := by
          intro W st' se' si' hT hG h1 h2 h3
          exact ⟨j + 1, st', se', si', by go_num, by omega, h1, h2, h3, ⟨hT⟩, ⟨(hG.block _ (blk_lt HP.out) (fun e => hpg (by injection e))).trans HP.out⟩, ⟨below_tw HB.out hG hge⟩⟩
        have HS := Aside0.mk step
        clear step
        rcases hst with ⟨rfl, hs2⟩ | rfl
        · by_cases hw : si + 1 < 3
          · go_wp2_with fail
            refine (twin_Tick.wait _ g tr 3 se si HT.out (by omega) hw).mono ?_
            rintro e w4 ⟨rfl, hT4, hG4⟩
            have HS4 := Aside0.mk (HS.out w4 1 se (si + 1) hT4 hG4 (by omega) (by omega) (by omega))
            clear hT4 hG4
            go_wp2_with fail
            exact ⟨HS4.out, by simp [intOf]; omega⟩
          · by_cases ha : tr ≤ se
            · go_wp2_with fail
              refine (twin_Tick.alone _ g tr 3 se si HT.out (by omega) (by omega) ha).mono ?_
              rintro e w4 ⟨rfl, hT4, hG4⟩
              have HS4 := Aside0.mk (HS.out w4 2 se (si + 1) hT4 hG4 (by omega) (by omega) (by omega))
              clear hT4 hG4
              go_wp2_with fail
              exact ⟨HS4.out, by simp [intOf]; omega⟩
            · go_wp2_with fail
              refine (twin_Tick.more _ g tr 3 se si HT.out (by omega) (by omega) (by omega) (by omega)).mono ?_
              rintro e w4 ⟨rfl, hT4, hG4⟩
              have HS4 := Aside0.mk (HS.out w4 1 (se + 1) 0 hT4 hG4 (by omega) (by omega) (by omega))
              clear hT4 hG4
              go_wp2_with fail
              exact ⟨HS4.out, by simp [intOf]; omega⟩
        · go_wp2_with fail
          refine (twin_Tick.idle _ g tr 3 2 se si HT.out (by decide)).mono ?_
          rintro e w4 ⟨rfl, hT4, hG4⟩
          have HS4 := Aside0.mk (HS.out w4 2 se si hT4 hG4 (by omega) (by omega) (by omega))
          clear hT4 hG4
          go_wp2_with fail
          exact ⟨HS4.out, by simp [intOf]; omega⟩

      · have hd : decide ((j : Int) < a1 % 20) = false := decide_eq_false hlt
        have HR4 := Aside0.mk (Kd.C_below HR.out HB.out)
        have q0 : wr.cell? ⟨w.heap.size, 0, none⟩ = some (.int .i64 a2_0) := (blk_cell HP.out 0).trans rfl
        have q1 : wr.cell? ⟨w.heap.size, 1, none⟩ = some (.int .i64 a2_1) := (blk_cell HP.out 1).trans rfl
        have q2 : wr.cell? ⟨w.heap.size, 2, none⟩ = some (.bool a2_2) := (blk_cell HP.out 2).trans rfl
        have q3 : wr.cell? ⟨w.heap.size, 3, none⟩ = some (.int .i64 a2_3) := (blk_cell HP.out 3).trans rfl
        have q4 : wr.cell? ⟨w.heap.size, 4, none⟩ = some (.int .i64 a2_4) := (blk_cell HP.out 4).trans rfl
        have q5 : wr.cell? ⟨w.heap.size, 5, none⟩ = some (.int .i64 a2_5) := (blk_cell HP.out 5).trans rfl
        have q6 : wr.cell? ⟨w.heap.size, 6, none⟩ = some (.int .i64 a2_6) := (blk_cell HP.out 6).trans rfl
        have q7 : wr.cell? ⟨w.heap.size, 7, none⟩ = some (.bool a2_7) := (blk_cell HP.out 7).trans rfl
        have q8 : wr.cell? ⟨w.heap.size, 8, none⟩ = some (.slice A2_8 l2_8.length c2_8) := (blk_cell HP.out 8).trans rfl
        rcases hst with ⟨rfl, hs2⟩ | rfl
        · go_wp2_with (first
            | (go_at_call 73; refine (twin_State.rd _ g tr 3 1 se si HT.out).mono ?_; rintro e w4 ⟨rfl, rfl⟩)
            | fail)
          refine (antiphonref6_May.calls k a2_0 a2_1 a2_2 a2_3 a2_4 a2_5 a2_6 a2_7 A2_8 c2_8 l2_8 m _ HR4.out HC.out HM'.out).mono ?_
          rintro e w5 ⟨rfl, hd⟩
          have hp5 := (hd.block _ (blk_lt HP.out)).trans HP.out
          have k0 : w5.cell? ⟨w.heap.size, 0, none⟩ = some (.int .i64 a2_0) := (blk_cell hp5 0).trans rfl
          have k1 : w5.cell? ⟨w.heap.size, 1, none⟩ = some (.int .i64 a2_1) := (blk_cell hp5 1).trans rfl
          have k2 : w5.cell? ⟨w.heap.size, 2, none⟩ = some (.bool a2_2) := (blk_cell hp5 2).trans rfl
          have k3 : w5.cell? ⟨w.heap.size, 3, none⟩ = some (.int .i64 a2_3) := (blk_cell hp5 3).trans rfl
          have k4 : w5.cell? ⟨w.heap.size, 4, none⟩ = some (.int .i64 a2_4) := (blk_cell hp5 4).trans rfl
          have k5 : w5.cell? ⟨w.heap.size, 5, none⟩ = some (.int .i64 a2_5) := (blk_cell hp5 5).trans rfl
          have k6 : w5.cell? ⟨w.heap.size, 6, none⟩ = some (.int .i64 a2_6) := (blk_cell hp5 6).trans rfl
          have k7 : w5.cell? ⟨w.heap.size, 7, none⟩ = some (.bool a2_7) := (blk_cell hp5 7).trans rfl
          have k8 : w5.cell? ⟨w.heap.size, 8, none⟩ = some (.slice A2_8 l2_8.length c2_8) := (blk_cell hp5 8).trans rfl
          have HT5 := Aside0.mk (HT.out.below hd)
          have HR5 := Aside0.mk (Kd.C_below HR4.out hd)
          have HB5 := Aside0.mk (below_step HB.out hd)
          clear hd hp5 q0 q1 q2 q3 q4 q5 q6 q7 q8
          cases m with
          | false =>
            have hans : (false && ansB a2_0 a2_1 a2_2 a2_3 a2_4 a2_7) = false := by simp [ansB]
            go_wp2_with (first
              | (go_at_call 71; refine (twin_Hear.asks k _ g tr 3 se si HT5.out a2_0 a2_1 a2_2 a2_3 a2_4 a2_5 a2_6 a2_7 A2_8 c2_8 l2_8 false HR5.out HC.out HM.out).mono ?_; rintro e w6 ⟨rfl, hT6, hG6⟩; have HB6 := Aside0.mk (below_tw HB5.out hG6 hge); have HT6 := Aside0.mk (show IsTw w6 g tr 3 1 se si from by rw [hans] at hT6; exact hT6); rw [hans]; clear hT6 hG6)
              | (go_at_call 73; refine (twin_State.rd _ g tr 3 1 se si HT6.out).mono ?_; rintro e w7 ⟨rfl, rfl⟩)
              | fail)
            go_ret
            exact ⟨rfl, HB6.out⟩
          | true =>
            by_cases h3 : a2_3 = 2
            case neg =>
              have e3 : (a2_3 == 2) = false := beq_eq_false_iff_ne.mpr h3
              have hans : (true && ansB a2_0 a2_1 a2_2 a2_3 a2_4 a2_7) = false := by simp [ansB, h3]
              go_wp2_with (first
                | (go_at_call 71; refine (twin_Hear.asks k _ g tr 3 se si HT5.out a2_0 a2_1 a2_2 a2_3 a2_4 a2_5 a2_6 a2_7 A2_8 c2_8 l2_8 true HR5.out HC.out HM.out).mono ?_; rintro e w6 ⟨rfl, hT6, hG6⟩; have HB6 := Aside0.mk (below_tw HB5.out hG6 hge); have HT6 := Aside0.mk (show IsTw w6 g tr 3 1 se si from by rw [hans] at hT6; exact hT6); rw [hans]; clear hT6 hG6)
                | (go_at_call 73; refine (twin_State.rd _ g tr 3 1 se si HT6.out).mono ?_; rintro e w7 ⟨rfl, rfl⟩)
                | fail)
              go_ret
              exact ⟨rfl, HB6.out⟩
            subst h3
            by_cases h4 : a2_4 = 2
            case neg =>
              have e4 : (a2_4 == 2) = false := beq_eq_false_iff_ne.mpr h4
              have hans : (true && ansB a2_0 a2_1 a2_2 2 a2_4 a2_7) = false := by simp [ansB, h4]
              go_wp2_with (first
                | (go_at_call 71; refine (twin_Hear.asks k _ g tr 3 se si HT5.out a2_0 a2_1 a2_2 2 a2_4 a2_5 a2_6 a2_7 A2_8 c2_8 l2_8 true HR5.out HC.out HM.out).mono ?_; rintro e w6 ⟨rfl, hT6, hG6⟩; have HB6 := Aside0.mk (below_tw HB5.out hG6 hge); have HT6 := Aside0.mk (show IsTw w6 g tr 3 1 se si from by rw [hans] at hT6; exact hT6); rw [hans]; clear hT6 hG6)
                | (go_at_call 73; refine (twin_State.rd _ g tr 3 1 se si HT6.out).mono ?_; rintro e w7 ⟨rfl, rfl⟩)
                | fail)
              go_ret
              exact ⟨rfl, HB6.out⟩
            subst h4
            cases a2_2 with
            | false =>
              have hans : (true && ansB a2_0 a2_1 false 2 2 a2_7) = false := by simp [ansB]
              go_wp2_with (first
                | (go_at_call 71; refine (twin_Hear.asks k _ g tr 3 se si HT5.out a2_0 a2_1 false 2 2 a2_5 a2_6 a2_7 A2_8 c2_8 l2_8 true HR5.out HC.out HM.out).mono ?_; rintro e w6 ⟨rfl, hT6, hG6⟩; have HB6 := Aside0.mk (below_tw HB5.out hG6 hge); have HT6 := Aside0.mk (show IsTw w6 g tr 3 1 se si from by rw [hans] at hT6; exact hT6); rw [hans]; clear hT6 hG6)
                | (go_at_call 73; refine (twin_State.rd _ g tr 3 1 se si HT6.out).mono ?_; rintro e w7 ⟨rfl, rfl⟩)
                | fail)
              go_ret
              exact ⟨rfl, HB6.out⟩
            | true =>
              cases a2_7 with
              | false =>
                have hans : (true && ansB a2_0 a2_1 true 2 2 false) = false := by simp [ansB]
                go_wp2_with (first
                  | (go_at_call 71; refine (twin_Hear.asks k _ g tr 3 se si HT5.out a2_0 a2_1 true 2 2 a2_5 a2_6 false A2_8 c2_8 l2_8 true HR5.out HC.out HM.out).mono ?_; rintro e w6 ⟨rfl, hT6, hG6⟩; have HB6 := Aside0.mk (below_tw HB5.out hG6 hge); have HT6 := Aside0.mk (show IsTw w6 g tr 3 1 se si from by rw [hans] at hT6; exact hT6); rw [hans]; clear hT6 hG6)
                  | (go_at_call 73; refine (twin_State.rd _ g tr 3 1 se si HT6.out).mono ?_; rintro e w7 ⟨rfl, rfl⟩)
                  | fail)
                go_ret
                exact ⟨rfl, HB6.out⟩
              | true =>
                by_cases h0 : a2_0 = 0
                case neg =>
                  have e0 : (a2_0 == 0) = false := beq_eq_false_iff_ne.mpr h0
                  have hans : (true && ansB a2_0 a2_1 true 2 2 true) = false := by simp [ansB, h0]
                  go_wp2_with (first
                    | (go_at_call 71; refine (twin_Hear.asks k _ g tr 3 se si HT5.out a2_0 a2_1 true 2 2 a2_5 a2_6 true A2_8 c2_8 l2_8 true HR5.out HC.out HM.out).mono ?_; rintro e w6 ⟨rfl, hT6, hG6⟩; have HB6 := Aside0.mk (below_tw HB5.out hG6 hge); have HT6 := Aside0.mk (show IsTw w6 g tr 3 1 se si from by rw [hans] at hT6; exact hT6); rw [hans]; clear hT6 hG6)
                    | (go_at_call 73; refine (twin_State.rd _ g tr 3 1 se si HT6.out).mono ?_; rintro e w7 ⟨rfl, rfl⟩)
                    | fail)
                  go_ret
                  exact ⟨rfl, HB6.out⟩
                subst h0
                by_cases h1 : a2_1 = 0
                case neg =>
                  have e1 : (a2_1 == 0) = false := beq_eq_false_iff_ne.mpr h1
                  have hans : (true && ansB 0 a2_1 true 2 2 true) = false := by simp [ansB, h1]
                  go_wp2_with (first
                    | (go_at_call 71; refine (twin_Hear.asks k _ g tr 3 se si HT5.out 0 a2_1 true 2 2 a2_5 a2_6 true A2_8 c2_8 l2_8 true HR5.out HC.out HM.out).mono ?_; rintro e w6 ⟨rfl, hT6, hG6⟩; have HB6 := Aside0.mk (below_tw HB5.out hG6 hge); have HT6 := Aside0.mk (show IsTw w6 g tr 3 1 se si from by rw [hans] at hT6; exact hT6); rw [hans]; clear hT6 hG6)
                    | (go_at_call 73; refine (twin_State.rd _ g tr 3 1 se si HT6.out).mono ?_; rintro e w7 ⟨rfl, rfl⟩)
                    | fail)
                  go_ret
                  exact ⟨rfl, HB6.out⟩
                subst h1
                have hans : (true && ansB 0 0 true 2 2 true) = true := by simp [ansB]
                go_wp2_with (first
                  | (go_at_call 71; refine (twin_Hear.asks k _ g tr 3 se si HT5.out 0 0 true 2 2 a2_5 a2_6 true A2_8 c2_8 l2_8 true HR5.out HC.out HM.out).mono ?_; rintro e w6 ⟨rfl, hT6, hG6⟩; have HB6 := Aside0.mk (below_tw HB5.out hG6 hge); have HT6 := Aside0.mk (show IsTw w6 g tr 3 3 se si from by rw [hans] at hT6; exact hT6); rw [hans]; clear hT6 hG6)
                  | (go_at_call 73; refine (twin_State.rd _ g tr 3 3 se si HT6.out).mono ?_; rintro e w7 ⟨rfl, rfl⟩)
                  | fail)
                go_ret
                exact ⟨rfl, HB6.out⟩
        · go_wp2_with (first
            | (go_at_call 73; refine (twin_State.rd _ g tr 3 2 se si HT.out).mono ?_; rintro e w4 ⟨rfl, rfl⟩)
            | fail)
          refine (antiphonref6_May.calls k a2_0 a2_1 a2_2 a2_3 a2_4 a2_5 a2_6 a2_7 A2_8 c2_8 l2_8 m _ HR4.out HC.out HM'.out).mono ?_
          rintro e w5 ⟨rfl, hd⟩
          have hp5 := (hd.block _ (blk_lt HP.out)).trans HP.out
          have k0 : w5.cell? ⟨w.heap.size, 0, none⟩ = some (.int .i64 a2_0) := (blk_cell hp5 0).trans rfl
          have k1 : w5.cell? ⟨w.heap.size, 1, none⟩ = some (.int .i64 a2_1) := (blk_cell hp5 1).trans rfl
          have k2 : w5.cell? ⟨w.heap.size, 2, none⟩ = some (.bool a2_2) := (blk_cell hp5 2).trans rfl
          have k3 : w5.cell? ⟨w.heap.size, 3, none⟩ = some (.int .i64 a2_3) := (blk_cell hp5 3).trans rfl
          have k4 : w5.cell? ⟨w.heap.size, 4, none⟩ = some (.int .i64 a2_4) := (blk_cell hp5 4).trans rfl
          have k5 : w5.cell? ⟨w.heap.size, 5, none⟩ = some (.int .i64 a2_5) := (blk_cell hp5 5).trans rfl
          have k6 : w5.cell? ⟨w.heap.size, 6, none⟩ = some (.int .i64 a2_6) := (blk_cell hp5 6).trans rfl
          have k7 : w5.cell? ⟨w.heap.size, 7, none⟩ = some (.bool a2_7) := (blk_cell hp5 7).trans rfl
          have k8 : w5.cell? ⟨w.heap.size, 8, none⟩ = some (.slice A2_8 l2_8.length c2_8) := (blk_cell hp5 8).trans rfl
          have HT5 := Aside0.mk (HT.out.below hd)
          have HR5 := Aside0.mk (Kd.C_below HR4.out hd)
          have HB5 := Aside0.mk (below_step HB.out hd)
          clear hd hp5 q0 q1 q2 q3 q4 q5 q6 q7 q8
          cases m with
          | false =>
            go_wp2_with (first
              | (go_at_call 71; refine (twin_Hear.deaf _ g tr 3 2 se si HT5.out (by decide) a2_0 a2_1 a2_2 a2_3 a2_4 a2_5 a2_6 a2_7 (.slice A2_8 l2_8.length c2_8)).mono ?_; rintro e w6 ⟨rfl, hT6, hG6⟩; have HB6 := Aside0.mk (below_tw HB5.out hG6 hge); have HT6 := Aside0.mk hT6; clear hT6 hG6)
              | (go_at_call 73; refine (twin_State.rd _ g tr 3 2 se si HT6.out).mono ?_; rintro e w7 ⟨rfl, rfl⟩)
              | fail)
            go_ret
            exact ⟨rfl, HB6.out⟩
          | true =>
            by_cases h3 : a2_3 = 2
            case neg =>
              have e3 : (a2_3 == 2) = false := beq_eq_false_iff_ne.mpr h3
              go_wp2_with (first
                | (go_at_call 71; refine (twin_Hear.deaf _ g tr 3 2 se si HT5.out (by decide) a2_0 a2_1 a2_2 a2_3 a2_4 a2_5 a2_6 a2_7 (.slice A2_8 l2_8.length c2_8)).mono ?_; rintro e w6 ⟨rfl, hT6, hG6⟩; have HB6 := Aside0.mk (below_tw HB5.out hG6 hge); have HT6 := Aside0.mk hT6; clear hT6 hG6)
                | (go_at_call 73; refine (twin_State.rd _ g tr 3 2 se si HT6.out).mono ?_; rintro e w7 ⟨rfl, rfl⟩)
                | fail)
              go_ret
              exact ⟨rfl, HB6.out⟩
            subst h3
            by_cases h4 : a2_4 = 2
            case neg =>
              have e4 : (a2_4 == 2) = false := beq_eq_false_iff_ne.mpr h4
              go_wp2_with (first
                | (go_at_call 71; refine (twin_Hear.deaf _ g tr 3 2 se si HT5.out (by decide) a2_0 a2_1 a2_2 2 a2_4 a2_5 a2_6 a2_7 (.slice A2_8 l2_8.length c2_8)).mono ?_; rintro e w6 ⟨rfl, hT6, hG6⟩; have HB6 := Aside0.mk (below_tw HB5.out hG6 hge); have HT6 := Aside0.mk hT6; clear hT6 hG6)
                | (go_at_call 73; refine (twin_State.rd _ g tr 3 2 se si HT6.out).mono ?_; rintro e w7 ⟨rfl, rfl⟩)
                | fail)
              go_ret
              exact ⟨rfl, HB6.out⟩
            subst h4
            cases a2_2 with
            | false =>
              go_wp2_with (first
                | (go_at_call 71; refine (twin_Hear.deaf _ g tr 3 2 se si HT5.out (by decide) a2_0 a2_1 false 2 2 a2_5 a2_6 a2_7 (.slice A2_8 l2_8.length c2_8)).mono ?_; rintro e w6 ⟨rfl, hT6, hG6⟩; have HB6 := Aside0.mk (below_tw HB5.out hG6 hge); have HT6 := Aside0.mk hT6; clear hT6 hG6)
                | (go_at_call 73; refine (twin_State.rd _ g tr 3 2 se si HT6.out).mono ?_; rintro e w7 ⟨rfl, rfl⟩)
                | fail)
              go_ret
              exact ⟨rfl, HB6.out⟩
            | true =>
              cases a2_7 with
              | false =>
                go_wp2_with (first
                  | (go_at_call 71; refine (twin_Hear.deaf _ g tr 3 2 se si HT5.out (by decide) a2_0 a2_1 true 2 2 a2_5 a2_6 false (.slice A2_8 l2_8.length c2_8)).mono ?_; rintro e w6 ⟨rfl, hT6, hG6⟩; have HB6 := Aside0.mk (below_tw HB5.out hG6 hge); have HT6 := Aside0.mk hT6; clear hT6 hG6)
                  | (go_at_call 73; refine (twin_State.rd _ g tr 3 2 se si HT6.out).mono ?_; rintro e w7 ⟨rfl, rfl⟩)
                  | fail)
                go_ret
                exact ⟨rfl, HB6.out⟩
              | true =>
                by_cases h0 : a2_0 = 0
                case neg =>
                  have e0 : (a2_0 == 0) = false := beq_eq_false_iff_ne.mpr h0
                  go_wp2_with (first
                    | (go_at_call 71; refine (twin_Hear.deaf _ g tr 3 2 se si HT5.out (by decide) a2_0 a2_1 true 2 2 a2_5 a2_6 true (.slice A2_8 l2_8.length c2_8)).mono ?_; rintro e w6 ⟨rfl, hT6, hG6⟩; have HB6 := Aside0.mk (below_tw HB5.out hG6 hge); have HT6 := Aside0.mk hT6; clear hT6 hG6)
                    | (go_at_call 73; refine (twin_State.rd _ g tr 3 2 se si HT6.out).mono ?_; rintro e w7 ⟨rfl, rfl⟩)
                    | fail)
                  go_ret
                  exact ⟨rfl, HB6.out⟩
                subst h0
                by_cases h1 : a2_1 = 0
                case neg =>
                  have e1 : (a2_1 == 0) = false := beq_eq_false_iff_ne.mpr h1
                  go_wp2_with (first
                    | (go_at_call 71; refine (twin_Hear.deaf _ g tr 3 2 se si HT5.out (by decide) 0 a2_1 true 2 2 a2_5 a2_6 true (.slice A2_8 l2_8.length c2_8)).mono ?_; rintro e w6 ⟨rfl, hT6, hG6⟩; have HB6 := Aside0.mk (below_tw HB5.out hG6 hge); have HT6 := Aside0.mk hT6; clear hT6 hG6)
                    | (go_at_call 73; refine (twin_State.rd _ g tr 3 2 se si HT6.out).mono ?_; rintro e w7 ⟨rfl, rfl⟩)
                    | fail)
                  go_ret
                  exact ⟨rfl, HB6.out⟩
                subst h1
                go_wp2_with (first
                  | (go_at_call 71; refine (twin_Hear.deaf _ g tr 3 2 se si HT5.out (by decide) 0 0 true 2 2 a2_5 a2_6 true (.slice A2_8 l2_8.length c2_8)).mono ?_; rintro e w6 ⟨rfl, hT6, hG6⟩; have HB6 := Aside0.mk (below_tw HB5.out hG6 hge); have HT6 := Aside0.mk hT6; clear hT6 hG6)
                  | (go_at_call 73; refine (twin_State.rd _ g tr 3 2 se si HT6.out).mono ?_; rintro e w7 ⟨rfl, rfl⟩)
                  | fail)
                go_ret
                exact ⟨rfl, HB6.out⟩

end Go.Proofs.Ytnmcoebjkfpmjaa.P
