-- Written by this session (wip/crc/mklaws.py).
import Derived.Test.YtpalloofjljhkaaRef
namespace Go.Proofs.Ytpalloofjljhkaa.P
open Go.RowKit Go.Proofs.Ytpalloofjljhkaa.Lib Go.Proofs.YtpalloofjljhkaaW.PrintWords Go.Proofs.YtpalloofjljhkaaW.PrintLast Go.Proofs.YtpalloofjljhkaaW.PrintMore
set_option linter.unusedVariables false
set_option linter.unusedSimpArgs false
def antiphonlaw2_CrcZero.f (l0 : List Int) : Option Bool := if (∀ c ∈ l0, 0 ≤ c ∧ c < 256) then some true else none
theorem zero_open {l0 : List Int} {r : Bool} (h : antiphonlaw2_CrcZero.f l0 = some r) : true = r ∧ byteRow l0 := by
  unfold antiphonlaw2_CrcZero.f at h
  split at h
  · rename_i hh; exact ⟨Option.some.inj h, hh⟩
  · cases h
theorem zero27f : Try.zeroCells27 = tabRow false := by kernel_rfl
set_option maxHeartbeats 8000000 in
set_option maxRecDepth 100000 in
theorem antiphonlaw2_CrcZero.calls (A0 : Option Addr) (c0 : Nat) (l0 : List Int) (r : Bool) (w : World) (hr0 : Kd.C (Kd.int .u8) w A0 l0.length l0) (hc0 : l0.length ≤ c0) (h : antiphonlaw2_CrcZero.f l0 = some r) :
    Calls Try.prog 3 #[.slice A0 l0.length c0] w fun e w' => e = .returned (.bool r) ∧ Below w.heap.size w w' := by
  obtain ⟨rfl, hb⟩ := zero_open h
  clear h
  have HB := Aside0.mk (Below.refl w.heap.size w)
  have HR := Aside0.mk hr0
  have HC := Aside0.mk hc0
  have HBY := Aside0.mk hb
  have hmx : l0.length ≤ 9223372036854775807 := hr0.2.1
  by_cases hl : l0.length ≤ 300
  case neg =>
    have d1 : decide ((300 : Int) < (l0.length : Int)) = true := decide_eq_true (by omega)
    clear hr0 hc0 hb hl
    go_enter Try.func3, Try.ntmps3
    go_wp2_with fail
    refine (antiphonlaw2_awake.calls true _ rfl).mono ?_
    rintro e wa ⟨rfl, hB⟩
    have hS := (show Below w.heap.size w wa from below_step (by repeat (first | with_reducible exact Below.refl _ _ | with_reducible apply below_drew1 | with_reducible apply pw_below_drewN | with_reducible apply below_alloc)) hB)
    replace HR := Aside0.mk (Kd.C_below HR.out hS)
    replace HB := Aside0.mk (below_step HB.out hS)
    clear hS hB
    go_wp2_with fail
    go_ret
    exact ⟨rfl, HB.out⟩
  have d1 : decide ((300 : Int) < (l0.length : Int)) = false := decide_eq_false (by omega)
  have hsg : IntKind.u32.signed = false := rfl
  clear hr0 hc0 hb
  go_enter Try.func3, Try.ntmps3
  go_wp2_with fail
  refine (antiphonlaw2_awake.calls true _ rfl).mono ?_
  rintro e wa ⟨rfl, hB⟩
  have hS := (show Below w.heap.size w wa from below_step (by repeat (first | with_reducible exact Below.refl _ _ | with_reducible apply below_drew1 | with_reducible apply pw_below_drewN | with_reducible apply below_alloc)) hB)
  replace HR := Aside0.mk (Kd.C_below HR.out hS)
  replace HB := Aside0.mk (below_step HB.out hS)
  clear hS hB
  go_wp2_with fail
  refine (crc_Make.calls _).mono ?_
  rintro e w1 ⟨rfl, hB⟩
  have hS := (show Below wa.heap.size wa w1 from below_step (by repeat (first | with_reducible exact Below.refl _ _ | with_reducible apply below_drew1 | with_reducible apply pw_below_drewN | with_reducible apply below_alloc)) hB)
  replace HR := Aside0.mk (Kd.C_below HR.out hS)
  replace HB := Aside0.mk (below_step HB.out hS)
  have hI := (show IsTab false (wa.alloc (.cells Try.zeroCells27 27 (0, 0))) wa.heap.size from by rw [zero27f]; exact IsTab.new false wa).below hB
  generalize wa.heap.size = g at hI ⊢
  have HI := Aside0.mk hI
  clear hI
  clear hS hB
  go_wp2_with fail
  go_loop [4, 5] (fun v4 v5 => ∃ k : Nat, k ≤ l0.length ∧ v5 = .int .i64 k ∧ v4 = .int .u32 ((runN false 4294967295 (nats (l0.take k)) : Nat) : Int)) (fun _ v5 => l0.length - (intOf v5).toNat)
  case atStart => exact ⟨0, Nat.zero_le _, rfl, rfl⟩
  case round =>
    obtain ⟨k, hk, rfl, rfl⟩ := hrel
    have hrl : runN false 4294967295 (nats (l0.take k)) < 4294967296 := runN_lt _ (by decide) (nats_lt fun c hc => HBY.out c (List.mem_of_mem_take hc))
    by_cases hlt : k < l0.length
    · have hst : runN false 4294967295 (nats (l0.take (k + 1))) = runN false 4294967295 (nats (l0.take k)) / 256 := by
        rw [nats_take_succ hlt, runN_snoc]
        unfold stepN tabN
        rw [if_neg (by decide), Nat.xor_zero, Nat.shiftRight_eq_div_pow]
      have HST := Aside0.mk hst
      clear hst
      generalize runN false 4294967295 (nats (l0.take k)) = x at hrl HST
      go_wp2_with fail
      go_round
      case rel => exact ⟨k + 1, by omega, by go_num, by rw [HST.out]; rfl⟩
      case measure => simp [intOf]; omega
    · obtain rfl : k = l0.length := by omega
      rw [List.take_length] at hrl ⊢
      have e1 := xor_top hrl
      have HM := Aside0.mk (crc_Sum.calls false A0 c0 l0 w1 HR.out HC.out HBY.out)
      rw [show moreN false 0 (nats l0) = 4294967295 ^^^ runN false 4294967295 (nats l0) from rfl] at HM
      go_wp2_with fail
      refine wp_load_row 27 (.tmp 3) rfl g rfl 27 (tabRow false) (0, 0) _ HI.out Try.underlying27 rfl (info27 false) ?_
      go_wp2_with fail
      refine HM.out.mono ?_
      rintro e w3 ⟨rfl, hB⟩
      have HB3 := Aside0.mk (below_step HB.out hB)
      clear hB
      go_wp2_with fail
      go_ret
      exact ⟨rfl, HB3.out⟩
end Go.Proofs.Ytpalloofjljhkaa.P
