-- Written by this session (wip/crc/mklaws.py).
import Derived.Test.YtpalloofjljhkaaRef
import Derived.Test.YtpalloofjljhkaaBurst
namespace Go.Proofs.Ytpalloofjljhkaa.P
open Go.RowKit Go.Proofs.Ytpalloofjljhkaa.Lib Go.Proofs.YtpalloofjljhkaaW.PrintWords Go.Proofs.YtpalloofjljhkaaW.PrintLast Go.Proofs.YtpalloofjljhkaaW.PrintMore
set_option linter.unusedVariables false
set_option linter.unusedSimpArgs false
def antiphonlaw2_CrcBursts.f (l0 : List Int) (a1 a2 : Int) : Option Bool := if (∀ c ∈ l0, 0 ≤ c ∧ c < 256) ∧ (-9223372036854775808 ≤ a1 ∧ a1 ≤ 9223372036854775807) ∧ (0 ≤ a2 ∧ a2 < 4294967296) then some true else none
theorem bursts_open {l0 : List Int} {a1 a2 : Int} {r : Bool} (h : antiphonlaw2_CrcBursts.f l0 a1 a2 = some r) : true = r ∧ byteRow l0 ∧ (-9223372036854775808 ≤ a1 ∧ a1 ≤ 9223372036854775807) ∧ (0 ≤ a2 ∧ a2 < 4294967296) := by
  unfold antiphonlaw2_CrcBursts.f at h
  split at h
  · rename_i hh; exact ⟨Option.some.inj h, hh.1, hh.2.1, hh.2.2⟩
  · cases h
theorem R_past {e base : Nat} {ok : Nat → Prop} {W : World} {v : Value} {xs : List Int} (h : Kd.R (Kd.int .u8) e W base ok v xs) {g j : Nat} {u : Value} (hg : g < base) : Kd.R (Kd.int .u8) e (W.setCell ⟨g, j, none⟩ u) base ok v xs :=
  Kd.R_mono (Kd.R_far (p := ⟨g, j, none⟩) (Kd.R_mono (Kd.R_bound h) (ok' := fun k => ok k ∧ k ≠ g) (fun k hk => ⟨hk.1, by have := hk.2.1; omega⟩)) (fun k hk => hk.2) u) (fun k hk => hk.1)
theorem R_some_ {e base : Nat} {ok : Nat → Prop} {W : World} {A : Option Addr} {n c : Nat} {xs : List Int} (h : Kd.R (Kd.int .u8) e W base ok (.slice A n c) xs) (hn : 0 < xs.length) : ∃ g, A = some ⟨g, 0, none⟩ := by
  obtain ⟨_, inner, ho, _⟩ := h
  rcases ho.2 with ⟨_, h0⟩ | ⟨g, cap, cur, he, _⟩
  · omega
  · injection he with h1
    exact ⟨g, h1⟩
theorem C_of_R {e base : Nat} {ok : Nat → Prop} {W : World} {A : Option Addr} {n c : Nat} {xs : List Int} (h : Kd.R (Kd.int .u8) e W base ok (.slice A n c) xs) : Kd.C (Kd.int .u8) W A n xs ∧ xs.length = n ∧ n ≤ c := by
  obtain ⟨A_, c_, he, hc, hC_⟩ := Kd.R_reads h
  injection he with e1 e2 e3
  subst e1
  subst e3
  rw [e2]
  exact ⟨hC_, rfl, hc⟩
/-- A place in a row of n things: any number, by Go's remainder. -/
theorem place_ (a : Int) (n : Nat) (hn : 0 < n) (hN : n ≤ 1000000) : ∃ (t : Int) (k : Nat), a.tmod n = t ∧ -1000000 ≤ t ∧ t ≤ 1000000 ∧ 0 ≤ t + n ∧ (t + n) % n = (k : Int) ∧ k < n := by
  have h1 := Int.tmod_lt_of_pos a (show (0 : Int) < n by omega)
  have h2 : -(n : Int) < a.tmod n := Int.lt_tmod_of_pos a (by omega)
  refine ⟨_, ((a.tmod n + n) % n).toNat, rfl, by omega, by omega, by omega, ?_, ?_⟩
  · rw [Int.toNat_of_nonneg (Int.emod_nonneg _ (by omega))]
  · have := Int.emod_lt_of_pos (a.tmod n + n) (show (0 : Int) < n by omega)
    have := Int.emod_nonneg (a.tmod n + n) (show (n : Int) ≠ 0 by omega)
    omega
theorem crc_Sum.made_ (A0 : Option Addr) (c0 n : Nat) (l0 : List Int) (hn : l0.length = n) (s : Nat) (hs : M.sum (nats l0) = s) (w : World) (hr0 : Kd.C (Kd.int .u8) w A0 n l0) (hc0 : n ≤ c0) (hb : byteRow l0) :
    Calls Try.prog 21 #[tabV true, .slice A0 n c0] w fun e w' => e = .returned (.int .u32 (s : Int)) ∧ Below w.heap.size w w' := by
  subst hn
  have := crc_Sum.calls true A0 c0 l0 w hr0 hc0 hb
  rw [moreN_true, M.sum_more, hs] at this
  exact this
set_option maxHeartbeats 8000000 in
set_option maxRecDepth 100000 in
theorem antiphonlaw2_CrcBursts.calls (A0 : Option Addr) (c0 : Nat) (l0 : List Int) (a1 a2 : Int) (r : Bool) (w : World) (hr0 : Kd.C (Kd.int .u8) w A0 l0.length l0) (hc0 : l0.length ≤ c0) (h : antiphonlaw2_CrcBursts.f l0 a1 a2 = some r) :
    Calls Try.prog 7 #[.slice A0 l0.length c0, .int .i64 a1, .int .u32 a2] w fun e w' => e = .returned (.bool r) ∧ Below w.heap.size w w' := by
  obtain ⟨rfl, hb, ⟨ha0, ha1⟩, hu0, hu1⟩ := bursts_open h
  clear h
  have HB := Aside0.mk (Below.refl w.heap.size w)
  have HR := Aside0.mk hr0
  have HC := Aside0.mk hc0
  have HBY := Aside0.mk hb
  have hm0 : l0.length ≤ 9223372036854775807 := hr0.2.1
  by_cases hl : l0.length ≤ 2000
  case neg =>
    have d1 : decide ((2000 : Int) < (l0.length : Int)) = true := decide_eq_true (by omega)
    clear hr0 hc0 hb hl
    go_enter Try.func7, Try.ntmps7
    go_wp2_with fail
    refine (antiphonlaw2_awake.calls true _ rfl).mono ?_
    rintro e wa ⟨rfl, hB⟩
    have hS := (show Below w.heap.size w wa from below_step (by repeat (first | with_reducible exact Below.refl _ _ | with_reducible apply below_drew1 | with_reducible apply pw_below_drewN | with_reducible apply below_alloc)) hB)
    replace HR := Aside0.mk (Kd.C_below HR.out hS)
    replace HB := Aside0.mk (below_step HB.out hS)
    clear hS hB
    go_wp2_with fail
    go_ret
    exact ⟨rfl, HB.out⟩
  have d1 : decide ((2000 : Int) < (l0.length : Int)) = false := decide_eq_false (by omega)
  obtain ⟨row, rfl⟩ : ∃ row : Nat, a2 = (row : Int) := ⟨a2.toNat, by omega⟩
  have HSE := Aside0.mk (show ∃ C, sealI l0 = C ∧ C.length = l0.length + 4 ∧ byteRow C ∧ openB C = true ∧ openL C = l0 from ⟨_, rfl, sealI_len l0, sealI_byte hb, open_seal.1, open_seal.2⟩)
  obtain ⟨C, hC, hCl, hCb, hCo, hCx⟩ := HSE.out
  clear HSE
  obtain ⟨t, kk, et, ht0, ht1, ht2, ek, hkk⟩ := place_ a1 (8 * C.length) (by omega) (by omega)
  rw [show ((8 * C.length : Nat) : Int) = 8 * (C.length : Int) by omega] at et ek ht2
  have HBC := Aside0.mk hCb
  have HSE := Aside0.mk hC
  have HOB := Aside0.mk hCo
  have HOL := Aside0.mk hCx
  have HLL := Aside0.mk hCl
  have hCl3 : C.length ≤ 2004 := by omega
  have HU := Aside0.mk (show row < 4294967296 by omega)
  have HSM := Aside0.mk (same_any (a := l0) (b := l0) (by omega))
  rw [decide_eq_true rfl] at HSM
  have HCP := Aside0.mk (copy_any (a := C) (by omega))
  have HL1 := Aside0.mk (show l0.length < 140737488355000 by omega)
  have HL2 := Aside0.mk (show C.length < 140737488355000 by omega)
  clear hr0 hc0 hb hu0 hu1 hC hCb hCo hCx hCl
  go_enter Try.func7, Try.ntmps7
  go_wp2_with fail
  refine (antiphonlaw2_awake.calls true _ rfl).mono ?_
  rintro e wa ⟨rfl, hB⟩
  have hS := (show Below w.heap.size w wa from below_step (by repeat (first | with_reducible exact Below.refl _ _ | with_reducible apply below_drew1 | with_reducible apply pw_below_drewN | with_reducible apply below_alloc)) hB)
  replace HR := Aside0.mk (Kd.C_below HR.out hS)
  replace HB := Aside0.mk (below_step HB.out hS)
  clear hS hB
  go_wp2_with fail
  refine (crc_Make.calls _).mono ?_
  rintro e w1 ⟨rfl, hB⟩
  have hS := (show Below wa.heap.size wa w1 from below_step (by repeat (first | with_reducible exact Below.refl _ _ | with_reducible apply below_drew1 | with_reducible apply pw_below_drewN | with_reducible apply below_alloc)) hB)
  replace HR := Aside0.mk (Kd.C_below HR.out hS)
  replace HB := Aside0.mk (below_step HB.out hS)
  clear hS hB
  go_wp2_with (first
    | (refine wpList_store_tab rfl (.tmp 7) (.tmp 22) rfl w1.heap.size rfl true rfl Try.zeroCells27 (blk_new w1 _) zsz27 ?_; intro w2 hI hG; have hS := (show Below w1.heap.size w1 w2 from (below_alloc (Below.refl _ _) _).grown hG (below_alloc (Below.refl _ _) _).size (fun k hk => by cases hk; exact Nat.le_refl _)); replace HR := Aside0.mk (Kd.C_below HR.out hS); have HG := Aside0.mk (HB.out.size); replace HB := Aside0.mk (below_step HB.out hS); generalize w1.heap.size = g at hI HG ⊢; have HI := Aside0.mk hI; clear hI hG hS)
    | (refine wpList_load_row rfl 27 (.tmp 7) rfl g rfl 27 (tabRow true) (0, 0) _ (HI.out.below (by repeat (first | with_reducible exact Below.refl _ _ | with_reducible apply below_drew1 | with_reducible apply pw_below_drewN | with_reducible apply below_alloc))) Try.underlying27 rfl (info27 true) ?_))
  refine (crc_Seal.calls _ _ _ _ (Kd.C_below HR.out (by repeat (first | with_reducible exact Below.refl _ _ | with_reducible apply below_drew1 | with_reducible apply pw_below_drewN | with_reducible apply below_alloc))) HC.out HBY.out HL1.out).mono ?_
  rintro e w3 ⟨v3, rfl, hR, hB⟩
  rw [HSE.out] at hR
  have HX := Aside0.mk (Kd.R_lower hR HB.out.size)
  have hS := (show Below w2.heap.size w2 w3 from below_step (by repeat (first | with_reducible exact Below.refl _ _ | with_reducible apply below_drew1 | with_reducible apply pw_below_drewN | with_reducible apply below_alloc)) hB)
  replace HR := Aside0.mk (Kd.C_below HR.out hS)
  replace HI := Aside0.mk (HI.out.below hS)
  replace HB := Aside0.mk (below_step HB.out hS)
  obtain ⟨Ax, cx, rfl⟩ := Kd.R_slice hR
  clear hR
  clear hS hB
  go_wp2_with (first
    | (refine wpList_load_row rfl 27 (.tmp 7) rfl g rfl 27 (tabRow true) (0, 0) _ (HI.out.below (by repeat (first | with_reducible exact Below.refl _ _ | with_reducible apply below_drew1 | with_reducible apply pw_below_drewN | with_reducible apply below_alloc))) Try.underlying27 rfl (info27 true) ?_))
  refine (crc_Open.calls Ax cx C _ (Kd.C_below (C_of_R HX.out).1 (by repeat (first | with_reducible exact Below.refl _ _ | with_reducible apply below_drew1 | with_reducible apply pw_below_drewN | with_reducible apply below_alloc))) (C_of_R HX.out).2.2 HBC.out HL2.out).mono ?_
  rintro e w4 ⟨v4, rfl, hR, hB⟩
  have hS := (show Below w3.heap.size w3 w4 from below_step (by repeat (first | with_reducible exact Below.refl _ _ | with_reducible apply below_drew1 | with_reducible apply pw_below_drewN | with_reducible apply below_alloc)) hB)
  replace HR := Aside0.mk (Kd.C_below HR.out hS)
  replace HX := Aside0.mk (Kd.R_below HX.out hS)
  replace HI := Aside0.mk (HI.out.below hS)
  replace HB := Aside0.mk (below_step HB.out hS)
  rw [HOB.out]
  rw [HOL.out] at hR
  obtain ⟨A4, c4, rfl, hc_, hC_⟩ := Kd.R_reads hR
  have HC4 := Aside0.mk hC_
  have Hc4 := Aside0.mk hc_
  clear hR hC_ hc_
  clear hS hB
  go_wp2_with fail
  refine (antiphonref1_Same.calls _ _ _ _ _ _ _ _ _ (Kd.C_below HC4.out (by repeat (first | with_reducible exact Below.refl _ _ | with_reducible apply below_drew1 | with_reducible apply pw_below_drewN | with_reducible apply below_alloc))) Hc4.out (Kd.C_below HR.out (by repeat (first | with_reducible exact Below.refl _ _ | with_reducible apply below_drew1 | with_reducible apply pw_below_drewN | with_reducible apply below_alloc))) HC.out HSM.out).mono ?_
  rintro e w5 ⟨rfl, hd⟩
  have hS := (show Below w4.heap.size w4 w5 from below_step (by repeat (first | with_reducible exact Below.refl _ _ | with_reducible apply below_drew1 | with_reducible apply pw_below_drewN | with_reducible apply below_alloc)) (Drawn0.below hd))
  replace HR := Aside0.mk (Kd.C_below HR.out hS)
  replace HC4 := Aside0.mk (Kd.C_below HC4.out hS)
  replace HX := Aside0.mk (Kd.R_below HX.out hS)
  replace HI := Aside0.mk (HI.out.below hS)
  replace HB := Aside0.mk (below_step HB.out hS)
  clear hS hd
  go_wp2_with fail
  refine (antiphonref1_Copy.calls _ Ax cx C _ _ (Kd.C_below (C_of_R HX.out).1 (by repeat (first | with_reducible exact Below.refl _ _ | with_reducible apply below_drew1 | with_reducible apply pw_below_drewN | with_reducible apply below_alloc))) (C_of_R HX.out).2.2 HCP.out).mono ?_
  rintro e w6 ⟨v6, rfl, hR, hB⟩
  have HGX := Aside0.mk (fun (gq : Nat) (e : Ax = some ⟨gq, 0, none⟩) => Kd.R_lt HX.out gq (by rw [e]; rfl))
  have hS := (show Below w5.heap.size w5 w6 from below_step (by repeat (first | with_reducible exact Below.refl _ _ | with_reducible apply below_drew1 | with_reducible apply pw_below_drewN | with_reducible apply below_alloc)) hB)
  replace HR := Aside0.mk (Kd.C_below HR.out hS)
  replace HC4 := Aside0.mk (Kd.C_below HC4.out hS)
  replace HX := Aside0.mk (Kd.R_below HX.out hS)
  replace HI := Aside0.mk (HI.out.below hS)
  replace HB := Aside0.mk (below_step HB.out hS)
  have HNW := Aside0.mk hR
  obtain ⟨A6, c6, rfl, hc_, hC_⟩ := Kd.R_reads hR
  have HC6 := Aside0.mk hC_
  have Hc6 := Aside0.mk hc_
  clear hR hC_ hc_
  clear hS hB
  go_wp2_with fail
  go_loopw [14] (fun v11 wr => ∃ (i : Nat) (X : List Int), i ≤ 32 ∧ kk + i ≤ 8 * C.length ∧ v11 = .int .i64 i ∧ Aside0 (Turned C kk row i X) ∧ Aside0 (Kd.R (Kd.int .u8) 5 wr w.heap.size (fun _ => True) (.slice Ax C.length cx) X) ∧ Aside0 (Below w.heap.size w wr) ∧ Aside0 (IsTab true wr g) ∧ Aside0 (Kd.R (Kd.int .u8) 5 wr w5.heap.size (fun _ => True) (.slice A6 C.length c6) C)) (fun v11 _ => 32 - (intOf v11).toNat)
  case atStart => exact ⟨0, C, by omega, by omega, rfl, ⟨Turned.start HBC.out kk row⟩, HX, HB, HI, HNW⟩
  case round =>
    clear HX HB HI HNW
    obtain ⟨i, X, hi32, hki, rfl, HTU, HX, HB, HI, HNW⟩ := hrel
    by_cases hlt : i < 32 ∧ kk + i < 8 * C.length
    · obtain ⟨hlt1, hlt2⟩ := hlt
      have e1 : decide ((i : Int) < 32) = true := decide_eq_true (by omega)
      have e2 : decide ((kk : Int) + (i : Int) < 8 * (C.length : Int)) = true := decide_eq_true (by omega)
      have HLT := Aside0.mk (And.intro hlt1 hlt2)
      have HKI := Aside0.mk (And.intro hi32 hki)
      have hk8 : (kk : Int) ≤ 1000000 := by omega
      have hi8 : (i : Int) ≤ 1000000 := by omega
      have hl8 : (C.length : Int) ≤ 10000 := by omega
      clear et ek ht0 ht1 ht2 hi32 hki hlt1 hlt2 hkk
      have hi0 : (0 : Int) ≤ (i : Int) := by omega
      have hk0 : (0 : Int) ≤ (kk : Int) := by omega
      obtain ⟨bt, ebt⟩ : ∃ bt, row / 2 ^ i % 2 = bt := ⟨_, rfl⟩
      have hand : Go.bits .and .u32 ((row : Int) / 2 ^ min i 32) 1 = (bt : Int) := by
        rw [Nat.min_eq_left (by have := HLT.out.1; omega)]
        have h := u32_and_nat (row / 2 ^ i) 1 (Nat.lt_of_le_of_lt (Nat.div_le_self _ _) HU.out) (by decide)
        rw [Nat.and_one_is_mod, ebt] at h
        rw [← h]
        simp
      have EBT := Aside0.mk ebt
      clear ebt
      have hcv : IntKind.u64.wrap (i : Int) = (i : Int) := u64_small _ (by omega) (by have := HLT.out.1; omega)
      by_cases hbt : bt = 1
      · subst hbt
        replace hand : Go.bits .and .u32 ((row : Int) / 2 ^ min i 32) 1 = 1 := hand
        obtain ⟨gx, rfl⟩ := R_some_ HX.out (by rw [HTU.out.1]; have := HLT.out.2; omega)
        obtain ⟨j, ej⟩ : ∃ j, (kk + i) / 8 = j := ⟨_, rfl⟩
        obtain ⟨m, em⟩ : ∃ m, (kk + i) % 8 = m := ⟨_, rfl⟩
        have hj : ((kk : Int) + (i : Int)) / 8 = (j : Int) := by omega
        have hm : ((kk : Int) + (i : Int)) % 8 = (m : Int) := by omega
        have hm8 : m < 8 := by omega
        have hjl : j < C.length := by have := HLT.out.2; omega
        have hcm : IntKind.u64.wrap (m : Int) = (m : Int) := u64_small _ (by omega) (by omega)
        have hxc := Kd.R_celln (0 : Int) HX.out (j : Int) (by omega) (by omega)
        rw [Int.toNat_natCast] at hxc
        obtain ⟨hxc, hxf⟩ := hxc
        rw [show rdOf (0 : Int) X (j : Int) = X.getD j 0 by simp [rdOf]] at hxc
        have hxb := getD_byte HTU.out.2.1 j
        have HON := Aside0.mk (fun (v : Int) hv => Turned.on (v := v) HTU.out EBT.out ej em HLT.out.2 hv)
        generalize hxj : X.getD j 0 = xj at hxc hxb HON
        have hV : Go.bits .xor .u8 xj (2 ^ m % 256) = ((xj.toNat ^^^ 2 ^ m : Nat) : Int) := by
          have hp : 2 ^ m < 256 := Nat.lt_of_le_of_lt (Nat.pow_le_pow_right (show 2 > 0 by decide) (show m ≤ 7 by omega)) (by decide)
          have hp2 : (2 : Int) ^ m % 256 = ((2 ^ m : Nat) : Int) := by
            rw [show (2 : Int) ^ m = ((2 ^ m : Nat) : Int) by simp]
            generalize 2 ^ m = q at hp
            omega
          rw [hp2, u8_xor xj _ hxb.1 hxb.2 (by omega) (by omega), Int.toNat_natCast]
        generalize xj.toNat ^^^ 2 ^ m = z at hV HON
        have HP := Aside0.mk (Kd.R_putg HX.out (j : Int) (z : Int))
        rw [Int.toNat_natCast] at HP
        clear ej em hxj hxb
        go_wp2_with fail
        refine ⟨⟨i + 1, X.set j (z : Int), by have := HLT.out; omega, by have := HLT.out; omega, by go_num, ⟨HON.out _ rfl⟩, ⟨HP.out.1⟩, ⟨HB.out.grown HP.out.2 HB.out.size (fun q hq => by cases hq; exact Kd.R_base HX.out gx rfl)⟩, ⟨HI.out.grown HP.out.2 (Kd.R_ne HX.out HI.out (by decide))⟩, ⟨R_past HNW.out (HGX.out gx rfl)⟩⟩, by have := HLT.out.1; simp [intOf]; omega⟩
      · obtain rfl : bt = 0 := by have := EBT.out; omega
        replace hand : Go.bits .and .u32 ((row : Int) / 2 ^ min i 32) 1 = 0 := hand
        have HOFF := Aside0.mk (HTU.out.off (by rw [EBT.out]; decide))
        go_wp2_with fail
        refine ⟨⟨i + 1, X, by have := HLT.out; omega, by have := HLT.out; omega, by go_num, HOFF, HX, HB, HI, HNW⟩, by have := HLT.out.1; simp [intOf]; omega⟩
    · have HKI := Aside0.mk (And.intro hi32 hki)
      clear et ek ht0 ht1 ht2
      have hk8 : (kk : Int) ≤ 1000000 := by omega
      have hi8 : (i : Int) ≤ 1000000 := by omega
      have hl8 : (C.length : Int) ≤ 10000 := by omega
      have hi0 : (0 : Int) ≤ (i : Int) := by omega
      have hk0 : (0 : Int) ≤ (kk : Int) := by omega
      by_cases hlt1 : i < 32
      · have e1 : decide ((i : Int) < 32) = true := decide_eq_true (by omega)
        have e2 : decide ((kk : Int) + (i : Int) < 8 * (C.length : Int)) = false := decide_eq_false (by omega)
        clear hlt hlt1 hki hkk hi32
        obtain ⟨hCX, hXl, hlc⟩ := C_of_R HX.out
        obtain ⟨hCN, _, hnc⟩ := C_of_R HNW.out
        have HRX := Aside0.mk hCX
        have HRN := Aside0.mk hCN
        have Hcx := Aside0.mk hlc
        have Hcn := Aside0.mk hnc
        have HBX := Aside0.mk HTU.out.2.1
        have hop : openB X = decide (C = X) := by
          have h := HTU.out
          rw [← HSE.out] at h ⊢
          exact h.opened HBY.out HKI.out.1 (by have := HKI.out.2; rw [← HSE.out] at this; omega)
        have HOX := Aside0.mk hop
        have HSN := Aside0.mk (same_any (a := C) (b := X) (by omega))
        have HSC := Aside0.mk (antiphonref1_Same.calls (C.length + 1) A6 c6 C Ax cx X (decide (C = X)))
        have HPO := Aside0.mk (crc_Open.calls Ax cx X)
        rw [hXl] at HSC HPO
        rw [hop] at HPO
        generalize decide (C = X) = bb at HSN HSC HPO
        clear hCX hCN hXl hlc hnc hop HOX HX HTU HNW
        go_wp2_with fail
        refine wp_load_row 27 (.tmp 7) rfl g rfl 27 (tabRow true) (0, 0) _ (HI.out.below (by repeat (first | with_reducible exact Below.refl _ _ | with_reducible apply below_drew1 | with_reducible apply pw_below_drewN | with_reducible apply below_alloc))) Try.underlying27 rfl (info27 true) ?_
        go_wp2_with fail
        refine (HPO.out _ (Kd.C_below HRX.out (by repeat (first | with_reducible exact Below.refl _ _ | with_reducible apply below_drew1 | with_reducible apply pw_below_drewN | with_reducible apply below_alloc))) Hcx.out HBX.out HL2.out).mono ?_
        rintro e w8 ⟨v8, rfl, hR, hB⟩
        have hS := (show Below wr.heap.size wr w8 from below_step (by repeat (first | with_reducible exact Below.refl _ _ | with_reducible apply below_drew1 | with_reducible apply pw_below_drewN | with_reducible apply below_alloc)) hB)
        replace HRX := Aside0.mk (Kd.C_below HRX.out hS)
        replace HRN := Aside0.mk (Kd.C_below HRN.out hS)
        replace HI := Aside0.mk (HI.out.below hS)
        replace HB := Aside0.mk (below_step HB.out hS)
        clear hR
        clear hS hB
        go_wp2_with fail
        refine (HSC.out _ (Kd.C_below HRN.out (by repeat (first | with_reducible exact Below.refl _ _ | with_reducible apply below_drew1 | with_reducible apply pw_below_drewN | with_reducible apply below_alloc))) Hcn.out (Kd.C_below HRX.out (by repeat (first | with_reducible exact Below.refl _ _ | with_reducible apply below_drew1 | with_reducible apply pw_below_drewN | with_reducible apply below_alloc))) Hcx.out HSN.out).mono ?_
        rintro e w9 ⟨rfl, hd⟩
        have hS := (show Below w8.heap.size w8 w9 from below_step (by repeat (first | with_reducible exact Below.refl _ _ | with_reducible apply below_drew1 | with_reducible apply pw_below_drewN | with_reducible apply below_alloc)) (Drawn0.below hd))
        replace HRX := Aside0.mk (Kd.C_below HRX.out hS)
        replace HRN := Aside0.mk (Kd.C_below HRN.out hS)
        replace HI := Aside0.mk (HI.out.below hS)
        replace HB := Aside0.mk (below_step HB.out hS)
        clear hS hd
        go_wp2_with fail
        go_ret
        exact ⟨rfl, HB.out⟩
      · have e1 : decide ((i : Int) < 32) = false := decide_eq_false (by omega)
        clear hlt hlt1 hki hkk hi32
        obtain ⟨hCX, hXl, hlc⟩ := C_of_R HX.out
        obtain ⟨hCN, _, hnc⟩ := C_of_R HNW.out
        have HRX := Aside0.mk hCX
        have HRN := Aside0.mk hCN
        have Hcx := Aside0.mk hlc
        have Hcn := Aside0.mk hnc
        have HBX := Aside0.mk HTU.out.2.1
        have hop : openB X = decide (C = X) := by
          have h := HTU.out
          rw [← HSE.out] at h ⊢
          exact h.opened HBY.out HKI.out.1 (by have := HKI.out.2; rw [← HSE.out] at this; omega)
        have HOX := Aside0.mk hop
        have HSN := Aside0.mk (same_any (a := C) (b := X) (by omega))
        have HSC := Aside0.mk (antiphonref1_Same.calls (C.length + 1) A6 c6 C Ax cx X (decide (C = X)))
        have HPO := Aside0.mk (crc_Open.calls Ax cx X)
        rw [hXl] at HSC HPO
        rw [hop] at HPO
        generalize decide (C = X) = bb at HSN HSC HPO
        clear hCX hCN hXl hlc hnc hop HOX HX HTU HNW
        go_wp2_with fail
        refine wp_load_row 27 (.tmp 7) rfl g rfl 27 (tabRow true) (0, 0) _ (HI.out.below (by repeat (first | with_reducible exact Below.refl _ _ | with_reducible apply below_drew1 | with_reducible apply pw_below_drewN | with_reducible apply below_alloc))) Try.underlying27 rfl (info27 true) ?_
        go_wp2_with fail
        refine (HPO.out _ (Kd.C_below HRX.out (by repeat (first | with_reducible exact Below.refl _ _ | with_reducible apply below_drew1 | with_reducible apply pw_below_drewN | with_reducible apply below_alloc))) Hcx.out HBX.out HL2.out).mono ?_
        rintro e w8 ⟨v8, rfl, hR, hB⟩
        have hS := (show Below wr.heap.size wr w8 from below_step (by repeat (first | with_reducible exact Below.refl _ _ | with_reducible apply below_drew1 | with_reducible apply pw_below_drewN | with_reducible apply below_alloc)) hB)
        replace HRX := Aside0.mk (Kd.C_below HRX.out hS)
        replace HRN := Aside0.mk (Kd.C_below HRN.out hS)
        replace HI := Aside0.mk (HI.out.below hS)
        replace HB := Aside0.mk (below_step HB.out hS)
        clear hR
        clear hS hB
        go_wp2_with fail
        refine (HSC.out _ (Kd.C_below HRN.out (by repeat (first | with_reducible exact Below.refl _ _ | with_reducible apply below_drew1 | with_reducible apply pw_below_drewN | with_reducible apply below_alloc))) Hcn.out (Kd.C_below HRX.out (by repeat (first | with_reducible exact Below.refl _ _ | with_reducible apply below_drew1 | with_reducible apply pw_below_drewN | with_reducible apply below_alloc))) Hcx.out HSN.out).mono ?_
        rintro e w9 ⟨rfl, hd⟩
        have hS := (show Below w8.heap.size w8 w9 from below_step (by repeat (first | with_reducible exact Below.refl _ _ | with_reducible apply below_drew1 | with_reducible apply pw_below_drewN | with_reducible apply below_alloc)) (Drawn0.below hd))
        replace HRX := Aside0.mk (Kd.C_below HRX.out hS)
        replace HRN := Aside0.mk (Kd.C_below HRN.out hS)
        replace HI := Aside0.mk (HI.out.below hS)
        replace HB := Aside0.mk (below_step HB.out hS)
        clear hS hd
        go_wp2_with fail
        go_ret
        exact ⟨rfl, HB.out⟩
end Go.Proofs.Ytpalloofjljhkaa.P
