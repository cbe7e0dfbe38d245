-- Written by this session (wip/crc/mklaws.py).
import Derived.Test.YtpalloofjljhkaaRef
import Derived.Test.YtpalloofjljhkaaBurst
namespace Go.Proofs.Ytpalloofjljhkaa.P
open Go.RowKit Go.Proofs.Ytpalloofjljhkaa.Lib Go.Proofs.YtpalloofjljhkaaW.PrintWords Go.Proofs.YtpalloofjljhkaaW.PrintLast Go.Proofs.YtpalloofjljhkaaW.PrintMore
set_option linter.unusedVariables false
set_option linter.unusedSimpArgs false
def antiphonlaw2_CrcUnlike.f (l0 : List Int) (a1 a2 : Int) : Option Bool := if (∀ c ∈ l0, 0 ≤ c ∧ c < 256) ∧ (-9223372036854775808 ≤ a1 ∧ a1 ≤ 9223372036854775807) ∧ (0 ≤ a2 ∧ a2 < 4294967296) then some true else none
theorem unlike_open {l0 : List Int} {a1 a2 : Int} {r : Bool} (h : antiphonlaw2_CrcUnlike.f l0 a1 a2 = some r) : true = r ∧ byteRow l0 ∧ (-9223372036854775808 ≤ a1 ∧ a1 ≤ 9223372036854775807) ∧ (0 ≤ a2 ∧ a2 < 4294967296) := by
  unfold antiphonlaw2_CrcUnlike.f at h
  split at h
  · rename_i hh; exact ⟨Option.some.inj h, hh.1, hh.2.1, hh.2.2⟩
  · cases h
theorem R_some_ {e base : Nat} {ok : Nat → Prop} {W : World} {A : Option Addr} {n c : Nat} {xs : List Int} (h : Kd.R (Kd.int .u8) e W base ok (.slice A n c) xs) (hn : 0 < xs.length) : ∃ g, A = some ⟨g, 0, none⟩ := by
  obtain ⟨_, inner, ho, _⟩ := h
  rcases ho.2 with ⟨_, h0⟩ | ⟨g, cap, cur, he, _⟩
  · omega
  · injection he with h1
    exact ⟨g, h1⟩
theorem C_of_R {e base : Nat} {ok : Nat → Prop} {W : World} {A : Option Addr} {n c : Nat} {xs : List Int} (h : Kd.R (Kd.int .u8) e W base ok (.slice A n c) xs) : Kd.C (Kd.int .u8) W A n xs ∧ xs.length = n ∧ n ≤ c := by
  obtain ⟨A_, c_, he, hc, hC_⟩ := Kd.R_reads h
  injection he with e1 e2 e3
  subst e1
  subst e3
  rw [e2]
  exact ⟨hC_, rfl, hc⟩
/-- A place in a row of n things: any number, by Go's remainder. -/
theorem place_ (a : Int) (n : Nat) (hn : 0 < n) (hN : n ≤ 1000000) : ∃ (t : Int) (k : Nat), a.tmod n = t ∧ -1000000 ≤ t ∧ t ≤ 1000000 ∧ 0 ≤ t + n ∧ (t + n) % n = (k : Int) ∧ k < n := by
  have h1 := Int.tmod_lt_of_pos a (show (0 : Int) < n by omega)
  have h2 : -(n : Int) < a.tmod n := Int.lt_tmod_of_pos a (by omega)
  refine ⟨_, ((a.tmod n + n) % n).toNat, rfl, by omega, by omega, by omega, ?_, ?_⟩
  · rw [Int.toNat_of_nonneg (Int.emod_nonneg _ (by omega))]
  · have := Int.emod_lt_of_pos (a.tmod n + n) (show (0 : Int) < n by omega)
    have := Int.emod_nonneg (a.tmod n + n) (show (n : Int) ≠ 0 by omega)
    omega
theorem crc_Sum.made_ (A0 : Option Addr) (c0 n : Nat) (l0 : List Int) (hn : l0.length = n) (s : Nat) (hs : M.sum (nats l0) = s) (w : World) (hr0 : Kd.C (Kd.int .u8) w A0 n l0) (hc0 : n ≤ c0) (hb : byteRow l0) :
    Calls Try.prog 21 #[tabV true, .slice A0 n c0] w fun e w' => e = .returned (.int .u32 (s : Int)) ∧ Below w.heap.size w w' := by
  subst hn
  have := crc_Sum.calls true A0 c0 l0 w hr0 hc0 hb
  rw [moreN_true, M.sum_more, hs] at this
  exact this
set_option maxHeartbeats 8000000 in
set_option maxRecDepth 100000 in
theorem antiphonlaw2_CrcUnlike.calls (A0 : Option Addr) (c0 : Nat) (l0 : List Int) (a1 a2 : Int) (r : Bool) (w : World) (hr0 : Kd.C (Kd.int .u8) w A0 l0.length l0) (hc0 : l0.length ≤ c0) (h : antiphonlaw2_CrcUnlike.f l0 a1 a2 = some r) :
    Calls Try.prog 6 #[.slice A0 l0.length c0, .int .i64 a1, .int .u32 a2] w fun e w' => e = .returned (.bool r) ∧ Below w.heap.size w w' := by
  obtain ⟨rfl, hb, ⟨ha0, ha1⟩, hu0, hu1⟩ := unlike_open h
  clear h
  have HB := Aside0.mk (Below.refl w.heap.size w)
  have HR := Aside0.mk hr0
  have HC := Aside0.mk hc0
  have HBY := Aside0.mk hb
  have hm0 : l0.length ≤ 9223372036854775807 := hr0.2.1
  by_cases hz : l0 = []
  · subst hz
    clear hr0 hc0 hb
    go_enter Try.func6, Try.ntmps6
    go_wp2_with fail
    refine (antiphonlaw2_awake.calls true _ rfl).mono ?_
    rintro e wa ⟨rfl, hB⟩
    have hS := (show Below w.heap.size w wa from below_step (by repeat (first | with_reducible exact Below.refl _ _ | with_reducible apply below_drew1 | with_reducible apply pw_below_drewN | with_reducible apply below_alloc)) hB)
    replace HR := Aside0.mk (Kd.C_below HR.out hS)
    replace HB := Aside0.mk (below_step HB.out hS)
    clear hS hB
    go_wp2_with fail
    go_ret
    exact ⟨rfl, HB.out⟩
  have hz' : 0 < l0.length := List.length_pos_iff.mpr hz
  have dz : ((l0.length : Int) == 0) = false := beq_eq_false_iff_ne.mpr (by omega)
  clear hz
  by_cases hl : l0.length ≤ 1000
  case neg =>
    have d1 : decide ((1000 : Int) < (l0.length : Int)) = true := decide_eq_true (by omega)
    clear hr0 hc0 hb hl
    go_enter Try.func6, Try.ntmps6
    go_wp2_with fail
    refine (antiphonlaw2_awake.calls true _ rfl).mono ?_
    rintro e wa ⟨rfl, hB⟩
    have hS := (show Below w.heap.size w wa from below_step (by repeat (first | with_reducible exact Below.refl _ _ | with_reducible apply below_drew1 | with_reducible apply pw_below_drewN | with_reducible apply below_alloc)) hB)
    replace HR := Aside0.mk (Kd.C_below HR.out hS)
    replace HB := Aside0.mk (below_step HB.out hS)
    clear hS hB
    go_wp2_with fail
    go_ret
    exact ⟨rfl, HB.out⟩
  have d1 : decide ((1000 : Int) < (l0.length : Int)) = false := decide_eq_false (by omega)
  obtain ⟨row, rfl⟩ : ∃ row : Nat, a2 = (row : Int) := ⟨a2.toNat, by omega⟩
  by_cases hrw : row = 0
  · subst hrw
    clear hr0 hc0 hb hl
    go_enter Try.func6, Try.ntmps6
    go_wp2_with fail
    refine (antiphonlaw2_awake.calls true _ rfl).mono ?_
    rintro e wa ⟨rfl, hB⟩
    have hS := (show Below w.heap.size w wa from below_step (by repeat (first | with_reducible exact Below.refl _ _ | with_reducible apply below_drew1 | with_reducible apply pw_below_drewN | with_reducible apply below_alloc)) hB)
    replace HR := Aside0.mk (Kd.C_below HR.out hS)
    replace HB := Aside0.mk (below_step HB.out hS)
    clear hS hB
    go_wp2_with fail
    go_ret
    exact ⟨rfl, HB.out⟩
  have d2 : ((row : Int) == 0) = false := beq_eq_false_iff_ne.mpr (by omega)
  obtain ⟨t, kk, et, ht0, ht1, ht2, ek, hkk⟩ := place_ a1 (8 * l0.length) (by omega) (by omega)
  rw [show ((8 * l0.length : Nat) : Int) = 8 * (l0.length : Int) by omega] at et ek ht2
  have HR0 := Aside0.mk hr0
  have HBC := Aside0.mk hb
  have HU := Aside0.mk (show row < 4294967296 by omega)
  have HCP := Aside0.mk (copy_any (a := l0) (by omega))
  clear hr0 hc0 hb hrw hu0 hu1
  go_enter Try.func6, Try.ntmps6
  go_wp2_with fail
  refine (antiphonlaw2_awake.calls true _ rfl).mono ?_
  rintro e wa ⟨rfl, hB⟩
  have hS := (show Below w.heap.size w wa from below_step (by repeat (first | with_reducible exact Below.refl _ _ | with_reducible apply below_drew1 | with_reducible apply pw_below_drewN | with_reducible apply below_alloc)) hB)
  replace HR := Aside0.mk (Kd.C_below HR.out hS)
  replace HB := Aside0.mk (below_step HB.out hS)
  clear hS hB
  go_wp2_with fail
  refine (crc_Make.calls _).mono ?_
  rintro e w1 ⟨rfl, hB⟩
  have hS := (show Below wa.heap.size wa w1 from below_step (by repeat (first | with_reducible exact Below.refl _ _ | with_reducible apply below_drew1 | with_reducible apply pw_below_drewN | with_reducible apply below_alloc)) hB)
  replace HR := Aside0.mk (Kd.C_below HR.out hS)
  replace HB := Aside0.mk (below_step HB.out hS)
  clear hS hB
  go_wp2_with (first
    | (refine wpList_store_tab rfl (.tmp 7) (.tmp 26) rfl w1.heap.size rfl true rfl Try.zeroCells27 (blk_new w1 _) zsz27 ?_; intro w2 hI hG; have hS := (show Below w1.heap.size w1 w2 from (below_alloc (Below.refl _ _) _).grown hG (below_alloc (Below.refl _ _) _).size (fun k hk => by cases hk; exact Nat.le_refl _)); replace HR := Aside0.mk (Kd.C_below HR.out hS); have HG := Aside0.mk (HB.out.size); replace HB := Aside0.mk (below_step HB.out hS); generalize w1.heap.size = g at hI HG ⊢; have HI := Aside0.mk hI; clear hI hG hS))
  refine (antiphonref1_Copy.calls _ _ _ _ _ _ (Kd.C_below HR.out (by repeat (first | with_reducible exact Below.refl _ _ | with_reducible apply below_drew1 | with_reducible apply pw_below_drewN | with_reducible apply below_alloc))) HC.out HCP.out).mono ?_
  rintro e w3 ⟨v3, rfl, hR, hB⟩
  have HX := Aside0.mk (Kd.R_lower hR HB.out.size)
  have hS := (show Below w2.heap.size w2 w3 from below_step (by repeat (first | with_reducible exact Below.refl _ _ | with_reducible apply below_drew1 | with_reducible apply pw_below_drewN | with_reducible apply below_alloc)) hB)
  replace HR := Aside0.mk (Kd.C_below HR.out hS)
  replace HI := Aside0.mk (HI.out.below hS)
  replace HB := Aside0.mk (below_step HB.out hS)
  obtain ⟨Ax, cx, rfl, hcx, hCx⟩ := Kd.R_reads hR
  clear hR hCx hcx HR
  clear hS hB
  go_wp2_with fail
  go_loopw [11] (fun v11 wr => ∃ (i : Nat) (X : List Int), i ≤ 32 ∧ kk + i ≤ 8 * l0.length ∧ v11 = .int .i64 i ∧ Aside0 (Turned l0 kk row i X) ∧ Aside0 (Kd.R (Kd.int .u8) 5 wr w.heap.size (fun _ => True) (.slice Ax l0.length cx) X) ∧ Aside0 (Below w.heap.size w wr) ∧ Aside0 (IsTab true wr g)) (fun v11 _ => 32 - (intOf v11).toNat)
  case atStart => exact ⟨0, l0, by omega, by omega, rfl, ⟨Turned.start HBC.out kk row⟩, HX, HB, HI⟩
  case round =>
    clear HX HB HI
    obtain ⟨i, X, hi32, hki, rfl, HTU, HX, HB, HI⟩ := hrel
    by_cases hlt : i < 32 ∧ kk + i < 8 * l0.length
    · obtain ⟨hlt1, hlt2⟩ := hlt
      have e1 : decide ((i : Int) < 32) = true := decide_eq_true (by omega)
      have e2 : decide ((kk : Int) + (i : Int) < 8 * (l0.length : Int)) = true := decide_eq_true (by omega)
      have HLT := Aside0.mk (And.intro hlt1 hlt2)
      have HKI := Aside0.mk (And.intro hi32 hki)
      have hk8 : (kk : Int) ≤ 1000000 := by omega
      have hi8 : (i : Int) ≤ 1000000 := by omega
      have hl8 : (l0.length : Int) ≤ 10000 := by omega
      clear et ek ht0 ht1 ht2 hi32 hki hlt1 hlt2 hkk
      have hi0 : (0 : Int) ≤ (i : Int) := by omega
      have hk0 : (0 : Int) ≤ (kk : Int) := by omega
      obtain ⟨bt, ebt⟩ : ∃ bt, row / 2 ^ i % 2 = bt := ⟨_, rfl⟩
      have hand : Go.bits .and .u32 ((row : Int) / 2 ^ min i 32) 1 = (bt : Int) := by
        rw [Nat.min_eq_left (by have := HLT.out.1; omega)]
        have h := u32_and_nat (row / 2 ^ i) 1 (Nat.lt_of_le_of_lt (Nat.div_le_self _ _) HU.out) (by decide)
        rw [Nat.and_one_is_mod, ebt] at h
        rw [← h]
        simp
      have EBT := Aside0.mk ebt
      clear ebt
      have hcv : IntKind.u64.wrap (i : Int) = (i : Int) := u64_small _ (by omega) (by have := HLT.out.1; omega)
      by_cases hbt : bt = 1
      · subst hbt
        replace hand : Go.bits .and .u32 ((row : Int) / 2 ^ min i 32) 1 = 1 := hand
        obtain ⟨gx, rfl⟩ := R_some_ HX.out (by rw [HTU.out.1]; have := HLT.out.2; omega)
        obtain ⟨j, ej⟩ : ∃ j, (kk + i) / 8 = j := ⟨_, rfl⟩
        obtain ⟨m, em⟩ : ∃ m, (kk + i) % 8 = m := ⟨_, rfl⟩
        have hj : ((kk : Int) + (i : Int)) / 8 = (j : Int) := by omega
        have hm : ((kk : Int) + (i : Int)) % 8 = (m : Int) := by omega
        have hm8 : m < 8 := by omega
        have hjl : j < l0.length := by have := HLT.out.2; omega
        have hcm : IntKind.u64.wrap (m : Int) = (m : Int) := u64_small _ (by omega) (by omega)
        have hxc := Kd.R_celln (0 : Int) HX.out (j : Int) (by omega) (by omega)
        rw [Int.toNat_natCast] at hxc
        obtain ⟨hxc, hxf⟩ := hxc
        rw [show rdOf (0 : Int) X (j : Int) = X.getD j 0 by simp [rdOf]] at hxc
        have hxb := getD_byte HTU.out.2.1 j
        have HON := Aside0.mk (fun (v : Int) hv => Turned.on (v := v) HTU.out EBT.out ej em HLT.out.2 hv)
        generalize hxj : X.getD j 0 = xj at hxc hxb HON
        have hV : Go.bits .xor .u8 xj (2 ^ m % 256) = ((xj.toNat ^^^ 2 ^ m : Nat) : Int) := by
          have hp : 2 ^ m < 256 := Nat.lt_of_le_of_lt (Nat.pow_le_pow_right (show 2 > 0 by decide) (show m ≤ 7 by omega)) (by decide)
          have hp2 : (2 : Int) ^ m % 256 = ((2 ^ m : Nat) : Int) := by
            rw [show (2 : Int) ^ m = ((2 ^ m : Nat) : Int) by simp]
            generalize 2 ^ m = q at hp
            omega
          rw [hp2, u8_xor xj _ hxb.1 hxb.2 (by omega) (by omega), Int.toNat_natCast]
        generalize xj.toNat ^^^ 2 ^ m = z at hV HON
        have HP := Aside0.mk (Kd.R_putg HX.out (j : Int) (z : Int))
        rw [Int.toNat_natCast] at HP
        clear ej em hxj hxb
        go_wp2_with fail
        refine ⟨⟨i + 1, X.set j (z : Int), by have := HLT.out; omega, by have := HLT.out; omega, by go_num, ⟨HON.out _ rfl⟩, ⟨HP.out.1⟩, ⟨HB.out.grown HP.out.2 HB.out.size (fun q hq => by cases hq; exact Kd.R_base HX.out gx rfl)⟩, ⟨HI.out.grown HP.out.2 (Kd.R_ne HX.out HI.out (by decide))⟩⟩, by have := HLT.out.1; simp [intOf]; omega⟩
      · obtain rfl : bt = 0 := by have := EBT.out; omega
        replace hand : Go.bits .and .u32 ((row : Int) / 2 ^ min i 32) 1 = 0 := hand
        have HOFF := Aside0.mk (HTU.out.off (by rw [EBT.out]; decide))
        go_wp2_with fail
        refine ⟨⟨i + 1, X, by have := HLT.out; omega, by have := HLT.out; omega, by go_num, HOFF, HX, HB, HI⟩, by have := HLT.out.1; simp [intOf]; omega⟩
    · have HKI := Aside0.mk (And.intro hi32 hki)
      clear et ek ht0 ht1 ht2
      have hk8 : (kk : Int) ≤ 1000000 := by omega
      have hi8 : (i : Int) ≤ 1000000 := by omega
      have hl8 : (l0.length : Int) ≤ 10000 := by omega
      have hi0 : (0 : Int) ≤ (i : Int) := by omega
      have hk0 : (0 : Int) ≤ (kk : Int) := by omega
      by_cases hlt1 : i < 32
      · have e1 : decide ((i : Int) < 32) = true := decide_eq_true (by omega)
        have e2 : decide ((kk : Int) + (i : Int) < 8 * (l0.length : Int)) = false := decide_eq_false (by omega)
        clear hlt hlt1 hki hkk hi32
        have HR := Aside0.mk (Kd.C_below HR0.out HB.out)
        obtain ⟨hCX, hXl, hlc⟩ := C_of_R HX.out
        have HRX := Aside0.mk hCX
        have Hcx := Aside0.mk hlc
        have HXL := Aside0.mk hXl
        have HBX := Aside0.mk HTU.out.2.1
        have HS0 := Aside0.mk (crc_Sum.made_ A0 c0 l0.length l0 rfl _ rfl)
        have HSX := Aside0.mk (crc_Sum.made_ Ax cx l0.length X hXl _ rfl)
        have hbb : (((M.sum (nats l0) : Nat) : Int) == ((M.sum (nats X) : Nat) : Int)) = decide (l0 = X) := by
          have := HTU.out.sum HBC.out HKI.out.1 (by have := HKI.out.2; omega)
          by_cases he : l0 = X
          · rw [decide_eq_true he, this.mpr he]; exact beq_self_eq_true _
          · rw [decide_eq_false he]; exact beq_eq_false_iff_ne.mpr (fun e => he (this.mp (by omega)))
        have HSM := Aside0.mk (same_any (a := l0) (b := X) (by omega))
        have HSS := Aside0.mk (same_any (a := l0) (b := l0) (by omega))
        rw [decide_eq_true rfl] at HSS
        have HSC := Aside0.mk (antiphonref1_Same.calls (l0.length + 1) A0 c0 l0 Ax cx X (decide (l0 = X)))
        rw [hXl] at HSC
        generalize M.sum (nats l0) = s0 at hbb HS0
        generalize M.sum (nats X) = s1 at hbb HSX
        generalize decide (l0 = X) = bb at hbb HSM HSC
        have hbn : (s0 == s1) = bb := by
          rw [← hbb]
          by_cases e : s0 = s1
          · subst e; simp
          · rw [beq_eq_false_iff_ne.mpr e]; exact (beq_eq_false_iff_ne.mpr (fun h => e (by omega))).symm
        have hsl : ((sealI l0).length : Int) = (l0.length : Int) + 4 := by rw [sealI_len]; omega
        have HTK := Aside0.mk (show (sealI l0).take l0.length = l0 by unfold sealI; rw [List.take_left])
        have HLE := Aside0.mk (show l0.length ≤ (sealI l0).length by rw [sealI_len]; omega)
        have HL1 := Aside0.mk (show l0.length < 140737488355000 by omega)
        obtain ⟨i0, hi, hz0, hz1, hz2⟩ := info_parts info5
        have HIN := Aside0.mk hi
        have hwr : wrap64 ((l0.length : Int) + 4) = (l0.length : Int) + 4 := w64 _ (by omega) (by omega)
        clear hCX hXl hlc hi hz0 hz1 hz2 HX HTU
        go_wp2_with fail
        refine start_ (n := 32) (S := fun w' => IsTab true w' g) (ds := []) #[false, false, false, false, false, false, false, false, false, false, false, false, false, false, false, false, false, false, false, false, false, false, false, false, false, false, false, false, false, false, false, false] (by kernel_rfl) rfl rfl ((HI.out.below (by repeat (first | with_reducible exact Below.refl _ _ | with_reducible apply below_drew1 | with_reducible apply pw_below_drewN | with_reducible apply below_alloc)))) (fun hHeld => ?_)
        refine pure_ (i := 1) (N := some 72) (v := ?_) (a' := ?_) #[false, true, false, false, false, false, false, false, false, false, false, false, false, false, false, false, false, false, false, false, false, false, false, false, false, false, false, false, false, false, false, false] rfl rfl (by kernel_rfl) (fun _ _ _ h => h) (Or.inl ⟨by rfl, ?_⟩) ?_ ?_
        rotate_left
        · intro w'
          go_simp
          with_reducible rfl
        rotate_left
        · simp only [Act.put, List.setIfInBounds_toArray, List.set_cons_zero, List.set_cons_succ, i64_w, i32_w]
          rfl
        refine pure_ (i := 4) (N := some 75) (v := ?_) (a' := ?_) #[false, true, false, false, true, false, false, false, false, false, false, false, false, false, false, false, false, false, false, false, false, false, false, false, false, false, false, false, false, false, false, false] rfl rfl (by kernel_rfl) (fun _ _ _ h => h) (Or.inl ⟨by rfl, ?_⟩) ?_ ?_
        rotate_left
        · intro w'
          go_simp
          with_reducible rfl
        rotate_left
        · simp only [Act.put, List.setIfInBounds_toArray, List.set_cons_zero, List.set_cons_succ, i64_w, i32_w]
          rfl
        refine pure_ (i := 7) (N := some 78) (v := ?_) (a' := ?_) #[false, true, false, false, true, false, false, true, false, false, false, false, false, false, false, false, false, false, false, false, false, false, false, false, false, false, false, false, false, false, false, false] rfl rfl (by kernel_rfl) (fun _ _ _ h => h) (Or.inl ⟨by rfl, ?_⟩) ?_ ?_
        rotate_left
        · intro w'
          go_simp
          with_reducible rfl
        rotate_left
        · simp only [Act.put, List.setIfInBounds_toArray, List.set_cons_zero, List.set_cons_succ, i64_w, i32_w]
          rfl
        refine pure_ (i := 8) (N := some 79) (v := ?_) (a' := ?_) #[false, true, false, false, true, false, false, true, true, false, false, false, false, false, false, false, false, false, false, false, false, false, false, false, false, false, false, false, false, false, false, false] rfl rfl (by kernel_rfl) (fun _ _ _ h => h) (Or.inl ⟨by rfl, ?_⟩) ?_ ?_
        rotate_left
        · intro w'
          go_simp
          with_reducible rfl
        rotate_left
        · simp only [Act.put, List.setIfInBounds_toArray, List.set_cons_zero, List.set_cons_succ, i64_w, i32_w]
          rfl
        refine take_ (i := 0) (N := some 71) (v := tabV true) #[true, true, false, false, true, false, false, true, true, false, false, false, false, false, false, false, false, false, false, false, false, false, false, false, false, false, false, false, false, false, false, false] rfl rfl (by kernel_rfl) (fun _ _ _ h => h) ?_ hHeld rfl ?_
        · exact yields_tab (by rfl) _ rfl _ rfl true (by intro w' s0; exact s0)
        refine norm_ (a' := ?_) ?_ ?_
        rotate_left
        · show Act.put _ (some 71) _ = _
          simp only [Act.put, List.setIfInBounds_toArray, List.set_cons_zero, List.set_cons_succ, i64_w, i32_w]
          rfl
        refine take_ (i := 3) (N := some 74) (v := tabV true) #[true, true, false, true, true, false, false, true, true, false, false, false, false, false, false, false, false, false, false, false, false, false, false, false, false, false, false, false, false, false, false, false] rfl rfl (by kernel_rfl) (fun _ _ _ h => h) ?_ hHeld rfl ?_
        · exact yields_tab (by rfl) _ rfl _ rfl true (by intro w' s0; exact s0)
        refine norm_ (a' := ?_) ?_ ?_
        rotate_left
        · show Act.put _ (some 74) _ = _
          simp only [Act.put, List.setIfInBounds_toArray, List.set_cons_zero, List.set_cons_succ, i64_w, i32_w]
          rfl
        refine one_ (i := 2) (N := some 73) #[true, true, true, true, true, false, false, true, true, false, false, false, false, false, false, false, false, false, false, false, false, false, false, false, false, false, false, false, false, false, false, false] rfl rfl (by kernel_rfl) (by decide) (fun K hK => ?_)
        refine goes_ Try.func21 (by kernel_rfl) rfl #[tabV true, .slice A0 l0.length c0] (by rfl) rfl rfl (by simp only [List.map_toArray, List.map_cons, List.map_nil]; rfl) ?_
        refine (HS0.out _ (Kd.C_below HR.out (by repeat (first | with_reducible exact Below.refl _ _ | with_reducible apply below_drew1 | with_reducible apply pw_below_drewN | with_reducible apply below_alloc))) HC.out HBY.out).mono ?_
        rintro e w4 ⟨rfl, hB⟩
        refine ⟨_, rfl, ?_⟩
        have hS := (show Below wr.heap.size wr w4 from below_step (by repeat (first | with_reducible exact Below.refl _ _ | with_reducible apply below_drew1 | with_reducible apply pw_below_drewN | with_reducible apply below_alloc)) hB)
        replace HRX := Aside0.mk (Kd.C_below HRX.out hS)
        replace HR := Aside0.mk (Kd.C_below HR.out hS)
        replace HI := Aside0.mk (HI.out.below hS)
        replace HB := Aside0.mk (below_step HB.out hS)
        clear hS hB
        refine hK.out _ _ ((HI.out.below (by repeat (first | with_reducible exact Below.refl _ _ | with_reducible apply below_drew1 | with_reducible apply pw_below_drewN | with_reducible apply below_alloc)))) (fun hHeld => ?_)
        clear hK K
        refine norm_ (a' := ?_) ?_ ?_
        rotate_left
        · show Act.put _ (some 73) _ = _
          simp only [Act.put, List.setIfInBounds_toArray, List.set_cons_zero, List.set_cons_succ, i64_w, i32_w]
          rfl
        refine one_ (i := 5) (N := some 76) #[true, true, true, true, true, true, false, true, true, false, false, false, false, false, false, false, false, false, false, false, false, false, false, false, false, false, false, false, false, false, false, false] rfl rfl (by kernel_rfl) (by decide) (fun K hK => ?_)
        refine goes_ Try.func21 (by kernel_rfl) rfl #[tabV true, .slice Ax l0.length cx] (by rfl) rfl rfl (by simp only [List.map_toArray, List.map_cons, List.map_nil]; rfl) ?_
        refine (HSX.out _ (Kd.C_below HRX.out (by repeat (first | with_reducible exact Below.refl _ _ | with_reducible apply below_drew1 | with_reducible apply pw_below_drewN | with_reducible apply below_alloc))) Hcx.out HBX.out).mono ?_
        rintro e w5 ⟨rfl, hB⟩
        refine ⟨_, rfl, ?_⟩
        have hS := (show Below w4.heap.size w4 w5 from below_step (by repeat (first | with_reducible exact Below.refl _ _ | with_reducible apply below_drew1 | with_reducible apply pw_below_drewN | with_reducible apply below_alloc)) hB)
        replace HRX := Aside0.mk (Kd.C_below HRX.out hS)
        replace HR := Aside0.mk (Kd.C_below HR.out hS)
        replace HI := Aside0.mk (HI.out.below hS)
        replace HB := Aside0.mk (below_step HB.out hS)
        clear hS hB
        refine hK.out _ _ ((HI.out.below (by repeat (first | with_reducible exact Below.refl _ _ | with_reducible apply below_drew1 | with_reducible apply pw_below_drewN | with_reducible apply below_alloc)))) (fun hHeld => ?_)
        clear hK K
        refine norm_ (a' := ?_) ?_ ?_
        rotate_left
        · show Act.put _ (some 76) _ = _
          simp only [Act.put, List.setIfInBounds_toArray, List.set_cons_zero, List.set_cons_succ, i64_w, i32_w]
          rfl
        refine pure_ (i := 6) (N := some 77) (v := ?_) (a' := ?_) #[true, true, true, true, true, true, true, true, true, false, false, false, false, false, false, false, false, false, false, false, false, false, false, false, false, false, false, false, false, false, false, false] rfl rfl (by kernel_rfl) (fun _ _ _ h => h) (Or.inl ⟨by rfl, ?_⟩) ?_ ?_
        rotate_left
        · intro w'
          go_simp
          with_reducible rfl
        rotate_left
        · simp only [Act.put, List.setIfInBounds_toArray, List.set_cons_zero, List.set_cons_succ, i64_w, i32_w]
          rfl
        refine one_ (i := 9) (N := some 80) #[true, true, true, true, true, true, true, true, true, true, false, false, false, false, false, false, false, false, false, false, false, false, false, false, false, false, false, false, false, false, false, false] rfl rfl (by kernel_rfl) (by decide) (fun K hK => ?_)
        refine goes_ Try.func25 (by kernel_rfl) rfl #[.slice A0 l0.length c0, .slice Ax l0.length cx] (by rfl) rfl rfl (by simp only [List.map_toArray, List.map_cons, List.map_nil]; rfl) ?_
        refine (HSC.out _ (Kd.C_below HR.out (by repeat (first | with_reducible exact Below.refl _ _ | with_reducible apply below_drew1 | with_reducible apply pw_below_drewN | with_reducible apply below_alloc))) HC.out (Kd.C_below HRX.out (by repeat (first | with_reducible exact Below.refl _ _ | with_reducible apply below_drew1 | with_reducible apply pw_below_drewN | with_reducible apply below_alloc))) Hcx.out HSM.out).mono ?_
        rintro e w6 ⟨rfl, hd⟩
        refine ⟨_, rfl, ?_⟩
        have hS := (show Below w5.heap.size w5 w6 from below_step (by repeat (first | with_reducible exact Below.refl _ _ | with_reducible apply below_drew1 | with_reducible apply pw_below_drewN | with_reducible apply below_alloc)) (Drawn0.below hd))
        replace HRX := Aside0.mk (Kd.C_below HRX.out hS)
        replace HR := Aside0.mk (Kd.C_below HR.out hS)
        replace HI := Aside0.mk (HI.out.below hS)
        replace HB := Aside0.mk (below_step HB.out hS)
        clear hS hd
        refine hK.out _ _ ((HI.out.below (by repeat (first | with_reducible exact Below.refl _ _ | with_reducible apply below_drew1 | with_reducible apply pw_below_drewN | with_reducible apply below_alloc)))) (fun hHeld => ?_)
        clear hK K
        refine norm_ (a' := ?_) ?_ ?_
        rotate_left
        · show Act.put _ (some 80) _ = _
          simp only [Act.put, List.setIfInBounds_toArray, List.set_cons_zero, List.set_cons_succ, i64_w, i32_w]
          rfl
        refine pure_ (i := 10) (N := some 81) (v := ?_) (a' := ?_) #[true, true, true, true, true, true, true, true, true, true, true, false, false, false, false, false, false, false, false, false, false, false, false, false, false, false, false, false, false, false, false, false] rfl rfl (by kernel_rfl) (fun _ _ _ h => h) (Or.inl ⟨by rfl, ?_⟩) ?_ ?_
        rotate_left
        · intro w'
          go_simp
          with_reducible rfl
        rotate_left
        · simp only [Act.put, List.setIfInBounds_toArray, List.set_cons_zero, List.set_cons_succ, i64_w, i32_w]
          rfl
        refine pure_ (i := 11) (N := some 82) (v := ?_) (a' := ?_) #[true, true, true, true, true, true, true, true, true, true, true, true, false, false, false, false, false, false, false, false, false, false, false, false, false, false, false, false, false, false, false, false] rfl rfl (by kernel_rfl) (fun _ _ _ h => h) (Or.inl ⟨by rfl, ?_⟩) ?_ ?_
        rotate_left
        · intro w'
          go_simp
          with_reducible rfl
        rotate_left
        · simp only [Act.put, List.setIfInBounds_toArray, List.set_cons_zero, List.set_cons_succ, i64_w, i32_w]
          rfl
        refine pure_ (i := 13) (N := some 84) (v := ?_) (a' := ?_) #[true, true, true, true, true, true, true, true, true, true, true, true, false, true, false, false, false, false, false, false, false, false, false, false, false, false, false, false, false, false, false, false] rfl rfl (by kernel_rfl) (fun _ _ _ h => h) (Or.inl ⟨by rfl, ?_⟩) ?_ ?_
        rotate_left
        · intro w'
          go_simp
          with_reducible rfl
        rotate_left
        · simp only [Act.put, List.setIfInBounds_toArray, List.set_cons_zero, List.set_cons_succ, i64_w, i32_w]
          rfl
        refine pure_ (i := 16) (N := some 87) (v := ?_) (a' := ?_) #[true, true, true, true, true, true, true, true, true, true, true, true, false, true, false, false, true, false, false, false, false, false, false, false, false, false, false, false, false, false, false, false] rfl rfl (by kernel_rfl) (fun _ _ _ h => h) (Or.inl ⟨by rfl, ?_⟩) ?_ ?_
        rotate_left
        · intro w'
          go_simp
          with_reducible rfl
        rotate_left
        · simp only [Act.put, List.setIfInBounds_toArray, List.set_cons_zero, List.set_cons_succ, i64_w, i32_w]
          rfl
        refine pure_ (i := 17) (N := some 88) (v := ?_) (a' := ?_) #[true, true, true, true, true, true, true, true, true, true, true, true, false, true, false, false, true, true, false, false, false, false, false, false, false, false, false, false, false, false, false, false] rfl rfl (by kernel_rfl) (fun _ _ _ h => h) (Or.inl ⟨by rfl, ?_⟩) ?_ ?_
        rotate_left
        · intro w'
          go_simp
          with_reducible rfl
        rotate_left
        · simp only [Act.put, List.setIfInBounds_toArray, List.set_cons_zero, List.set_cons_succ, i64_w, i32_w]
          rfl
        refine pure_ (i := 18) (N := some 89) (v := ?_) (a' := ?_) #[true, true, true, true, true, true, true, true, true, true, true, true, false, true, false, false, true, true, true, false, false, false, false, false, false, false, false, false, false, false, false, false] rfl rfl (by kernel_rfl) (fun _ _ _ h => h) (Or.inl ⟨by rfl, ?_⟩) ?_ ?_
        rotate_left
        · intro w'
          go_simp
          with_reducible rfl
        rotate_left
        · simp only [Act.put, List.setIfInBounds_toArray, List.set_cons_zero, List.set_cons_succ, i64_w, i32_w]
          rfl
        refine take_ (i := 12) (N := some 83) (v := tabV true) #[true, true, true, true, true, true, true, true, true, true, true, true, true, true, false, false, true, true, true, false, false, false, false, false, false, false, false, false, false, false, false, false] rfl rfl (by kernel_rfl) (fun _ _ _ h => h) ?_ hHeld rfl ?_
        · exact yields_tab (by rfl) _ rfl _ rfl true (by intro w' s0; exact s0)
        refine norm_ (a' := ?_) ?_ ?_
        rotate_left
        · show Act.put _ (some 83) _ = _
          simp only [Act.put, List.setIfInBounds_toArray, List.set_cons_zero, List.set_cons_succ, i64_w, i32_w]
          rfl
        refine one_ (i := 14) (N := some 85) #[true, true, true, true, true, true, true, true, true, true, true, true, true, true, true, false, true, true, true, false, false, false, false, false, false, false, false, false, false, false, false, false] rfl rfl (by kernel_rfl) (by decide) (fun K hK => ?_)
        refine goes_ Try.func26 (by kernel_rfl) rfl #[tabV true, .slice A0 l0.length c0] (by rfl) rfl rfl (by simp only [List.map_toArray, List.map_cons, List.map_nil]; rfl) ?_
        refine (crc_Seal.calls _ _ _ _ (Kd.C_below HR.out (by repeat (first | with_reducible exact Below.refl _ _ | with_reducible apply below_drew1 | with_reducible apply pw_below_drewN | with_reducible apply below_alloc))) HC.out HBY.out HL1.out).mono ?_
        rintro e w7 ⟨v7, rfl, hR, hB⟩
        refine ⟨_, rfl, ?_⟩
        have hS := (show Below w6.heap.size w6 w7 from below_step (by repeat (first | with_reducible exact Below.refl _ _ | with_reducible apply below_drew1 | with_reducible apply pw_below_drewN | with_reducible apply below_alloc)) hB)
        replace HRX := Aside0.mk (Kd.C_below HRX.out hS)
        replace HR := Aside0.mk (Kd.C_below HR.out hS)
        replace HI := Aside0.mk (HI.out.below hS)
        replace HB := Aside0.mk (below_step HB.out hS)
        obtain ⟨A7, c7, rfl, hc_, hC_⟩ := Kd.R_reads hR
        have HC7 := Aside0.mk hC_
        have Hc7 := Aside0.mk hc_
        clear hR hC_ hc_
        clear hS hB
        refine hK.out _ _ ((HI.out.below (by repeat (first | with_reducible exact Below.refl _ _ | with_reducible apply below_drew1 | with_reducible apply pw_below_drewN | with_reducible apply below_alloc)))) (fun hHeld => ?_)
        clear hK K
        refine norm_ (a' := ?_) ?_ ?_
        rotate_left
        · show Act.put _ (some 85) _ = _
          simp only [Act.put, List.setIfInBounds_toArray, List.set_cons_zero, List.set_cons_succ, i64_w, i32_w]
          rfl
        refine pure_ (i := 15) (N := some 86) (v := ?_) (a' := ?_) #[true, true, true, true, true, true, true, true, true, true, true, true, true, true, true, true, true, true, true, false, false, false, false, false, false, false, false, false, false, false, false, false] rfl rfl (by kernel_rfl) (fun _ _ _ h => h) (Or.inl ⟨by rfl, ?_⟩) ?_ ?_
        rotate_left
        · intro w'
          go_simp
          with_reducible rfl
        rotate_left
        · simp only [Act.put, List.setIfInBounds_toArray, List.set_cons_zero, List.set_cons_succ, i64_w, i32_w]
          rfl
        refine pure_ (i := 19) (N := some 90) (v := ?_) (a' := ?_) #[true, true, true, true, true, true, true, true, true, true, true, true, true, true, true, true, true, true, true, true, false, false, false, false, false, false, false, false, false, false, false, false] rfl rfl (by kernel_rfl) (fun _ _ _ h => h) (Or.inl ⟨by rfl, ?_⟩) ?_ ?_
        rotate_left
        · intro w'
          go_simp
          with_reducible rfl
        rotate_left
        · simp only [Act.put, List.setIfInBounds_toArray, List.set_cons_zero, List.set_cons_succ, i64_w, i32_w]
          rfl
        refine pure_ (i := 20) (N := some 91) (v := ?_) (a' := ?_) #[true, true, true, true, true, true, true, true, true, true, true, true, true, true, true, true, true, true, true, true, true, false, false, false, false, false, false, false, false, false, false, false] rfl rfl (by kernel_rfl) (fun _ _ _ h => h) (Or.inl ⟨by rfl, ?_⟩) ?_ ?_
        rotate_left
        · intro w'
          go_simp
          with_reducible rfl
        rotate_left
        · simp only [Act.put, List.setIfInBounds_toArray, List.set_cons_zero, List.set_cons_succ, i64_w, i32_w]
          rfl
        refine pure_ (i := 21) (N := some 92) (v := ?_) (a' := ?_) #[true, true, true, true, true, true, true, true, true, true, true, true, true, true, true, true, true, true, true, true, true, true, false, false, false, false, false, false, false, false, false, false] rfl rfl (by kernel_rfl) (fun _ _ _ h => h) (Or.inl ⟨by rfl, ?_⟩) ?_ ?_
        rotate_left
        · intro w'
          go_simp
          with_reducible rfl
        rotate_left
        · simp only [Act.put, List.setIfInBounds_toArray, List.set_cons_zero, List.set_cons_succ, i64_w, i32_w]
          rfl
        refine pure_ (i := 23) (N := some 94) (v := ?_) (a' := ?_) #[true, true, true, true, true, true, true, true, true, true, true, true, true, true, true, true, true, true, true, true, true, true, false, true, false, false, false, false, false, false, false, false] rfl rfl (by kernel_rfl) (fun _ _ _ h => h) (Or.inl ⟨by rfl, ?_⟩) ?_ ?_
        rotate_left
        · intro w'
          go_simp
          with_reducible rfl
        rotate_left
        · simp only [Act.put, List.setIfInBounds_toArray, List.set_cons_zero, List.set_cons_succ, i64_w, i32_w]
          rfl
        refine pure_ (i := 25) (N := some 96) (v := ?_) (a' := ?_) #[true, true, true, true, true, true, true, true, true, true, true, true, true, true, true, true, true, true, true, true, true, true, false, true, false, true, false, false, false, false, false, false] rfl rfl (by kernel_rfl) (fun _ _ _ h => h) (Or.inl ⟨by rfl, ?_⟩) ?_ ?_
        rotate_left
        · intro w'
          go_simp
          with_reducible rfl
        rotate_left
        · simp only [Act.put, List.setIfInBounds_toArray, List.set_cons_zero, List.set_cons_succ, i64_w, i32_w]
          rfl
        refine pure_ (i := 26) (N := some 97) (v := ?_) (a' := ?_) #[true, true, true, true, true, true, true, true, true, true, true, true, true, true, true, true, true, true, true, true, true, true, false, true, false, true, true, false, false, false, false, false] rfl rfl (by kernel_rfl) (fun _ _ _ h => h) (Or.inl ⟨by rfl, ?_⟩) ?_ ?_
        rotate_left
        · intro w'
          go_simp
          with_reducible rfl
        rotate_left
        · simp only [Act.put, List.setIfInBounds_toArray, List.set_cons_zero, List.set_cons_succ, i64_w, i32_w]
          rfl
        refine pure_ (i := 28) (N := some 99) (v := ?_) (a' := ?_) #[true, true, true, true, true, true, true, true, true, true, true, true, true, true, true, true, true, true, true, true, true, true, false, true, false, true, true, false, true, false, false, false] rfl rfl (by kernel_rfl) (fun _ _ _ h => h) (Or.inl ⟨by rfl, ?_⟩) ?_ ?_
        rotate_left
        · intro w'
          go_simp
          with_reducible rfl
        rotate_left
        · simp only [Act.put, List.setIfInBounds_toArray, List.set_cons_zero, List.set_cons_succ, i64_w, i32_w]
          rfl
        refine take_ (i := 22) (N := some 93) (v := tabV true) #[true, true, true, true, true, true, true, true, true, true, true, true, true, true, true, true, true, true, true, true, true, true, true, true, false, true, true, false, true, false, false, false] rfl rfl (by kernel_rfl) (fun _ _ _ h => h) ?_ hHeld rfl ?_
        · exact yields_tab (by rfl) _ rfl _ rfl true (by intro w' s0; exact s0)
        refine norm_ (a' := ?_) ?_ ?_
        rotate_left
        · show Act.put _ (some 93) _ = _
          simp only [Act.put, List.setIfInBounds_toArray, List.set_cons_zero, List.set_cons_succ, i64_w, i32_w]
          rfl
        refine one_ (i := 24) (N := some 95) #[true, true, true, true, true, true, true, true, true, true, true, true, true, true, true, true, true, true, true, true, true, true, true, true, true, true, true, false, true, false, false, false] rfl rfl (by kernel_rfl) (by decide) (fun K hK => ?_)
        refine goes_ Try.func26 (by kernel_rfl) rfl #[tabV true, .slice A0 l0.length c0] (by rfl) rfl rfl (by simp only [List.map_toArray, List.map_cons, List.map_nil]; rfl) ?_
        refine (crc_Seal.calls _ _ _ _ (Kd.C_below HR.out (by repeat (first | with_reducible exact Below.refl _ _ | with_reducible apply below_drew1 | with_reducible apply pw_below_drewN | with_reducible apply below_alloc))) HC.out HBY.out HL1.out).mono ?_
        rintro e w8 ⟨v8, rfl, hR, hB⟩
        refine ⟨_, rfl, ?_⟩
        have hS := (show Below w7.heap.size w7 w8 from below_step (by repeat (first | with_reducible exact Below.refl _ _ | with_reducible apply below_drew1 | with_reducible apply pw_below_drewN | with_reducible apply below_alloc)) hB)
        replace HRX := Aside0.mk (Kd.C_below HRX.out hS)
        replace HR := Aside0.mk (Kd.C_below HR.out hS)
        replace HI := Aside0.mk (HI.out.below hS)
        replace HB := Aside0.mk (below_step HB.out hS)
        obtain ⟨A8, c8, rfl, hc_, hC_⟩ := Kd.R_reads hR
        have HC8 := Aside0.mk hC_
        have Hc8 := Aside0.mk hc_
        clear hR hC_ hc_
        have q8 := cut_to 22 5 .i64 (P := Try.prog) Try.underlying22 HIN.out A8 (sealI l0).length c8 (l0.length : Int) (Int.natCast_nonneg _) (Int.ofNat_le.mpr HLE.out) Hc8.out
        rw [Int.toNat_natCast] at q8
        have hT8 := Kd.C_take HC8.out HLE.out
        rw [HTK.out] at hT8
        have HT8 := Aside0.mk hT8
        have HC8' := Aside0.mk (Nat.le_trans HLE.out Hc8.out)
        clear hT8
        clear hS hB
        refine hK.out _ _ ((HI.out.below (by repeat (first | with_reducible exact Below.refl _ _ | with_reducible apply below_drew1 | with_reducible apply pw_below_drewN | with_reducible apply below_alloc)))) (fun hHeld => ?_)
        clear hK K
        refine norm_ (a' := ?_) ?_ ?_
        rotate_left
        · show Act.put _ (some 95) _ = _
          simp only [Act.put, List.setIfInBounds_toArray, List.set_cons_zero, List.set_cons_succ, i64_w, i32_w]
          rfl
        refine pure_ (i := 27) (N := some 98) (v := ?_) (a' := ?_) #[true, true, true, true, true, true, true, true, true, true, true, true, true, true, true, true, true, true, true, true, true, true, true, true, true, true, true, true, true, false, false, false] rfl rfl (by kernel_rfl) (fun _ _ _ h => h) (Or.inl ⟨by rfl, ?_⟩) ?_ ?_
        rotate_left
        · intro w'
          go_simp
          with_reducible rfl
        rotate_left
        · simp only [Act.put, List.setIfInBounds_toArray, List.set_cons_zero, List.set_cons_succ, i64_w, i32_w]
          rfl
        refine one_ (i := 29) (N := some 100) #[true, true, true, true, true, true, true, true, true, true, true, true, true, true, true, true, true, true, true, true, true, true, true, true, true, true, true, true, true, true, false, false] rfl rfl (by kernel_rfl) (by decide) (fun K hK => ?_)
        refine goes_ Try.func25 (by kernel_rfl) rfl #[.slice A8 l0.length c8, .slice A0 l0.length c0] (by rfl) rfl rfl (by simp only [List.map_toArray, List.map_cons, List.map_nil]; rfl) ?_
        refine (antiphonref1_Same.calls _ _ _ _ _ _ _ _ _ (Kd.C_below HT8.out (by repeat (first | with_reducible exact Below.refl _ _ | with_reducible apply below_drew1 | with_reducible apply pw_below_drewN | with_reducible apply below_alloc))) HC8'.out (Kd.C_below HR.out (by repeat (first | with_reducible exact Below.refl _ _ | with_reducible apply below_drew1 | with_reducible apply pw_below_drewN | with_reducible apply below_alloc))) HC.out HSS.out).mono ?_
        rintro e w9 ⟨rfl, hd⟩
        refine ⟨_, rfl, ?_⟩
        have hS := (show Below w8.heap.size w8 w9 from below_step (by repeat (first | with_reducible exact Below.refl _ _ | with_reducible apply below_drew1 | with_reducible apply pw_below_drewN | with_reducible apply below_alloc)) (Drawn0.below hd))
        replace HRX := Aside0.mk (Kd.C_below HRX.out hS)
        replace HR := Aside0.mk (Kd.C_below HR.out hS)
        replace HT8 := Aside0.mk (Kd.C_below HT8.out hS)
        replace HI := Aside0.mk (HI.out.below hS)
        replace HB := Aside0.mk (below_step HB.out hS)
        clear hS hd
        refine hK.out _ _ ((HI.out.below (by repeat (first | with_reducible exact Below.refl _ _ | with_reducible apply below_drew1 | with_reducible apply pw_below_drewN | with_reducible apply below_alloc)))) (fun hHeld => ?_)
        clear hK K
        refine norm_ (a' := ?_) ?_ ?_
        rotate_left
        · show Act.put _ (some 100) _ = _
          simp only [Act.put, List.setIfInBounds_toArray, List.set_cons_zero, List.set_cons_succ, i64_w, i32_w]
          rfl
        refine pure_ (i := 30) (N := some 101) (v := ?_) (a' := ?_) #[true, true, true, true, true, true, true, true, true, true, true, true, true, true, true, true, true, true, true, true, true, true, true, true, true, true, true, true, true, true, true, false] rfl rfl (by kernel_rfl) (fun _ _ _ h => h) (Or.inl ⟨by rfl, ?_⟩) ?_ ?_
        rotate_left
        · intro w'
          go_simp
          with_reducible rfl
        rotate_left
        · simp only [Act.put, List.setIfInBounds_toArray, List.set_cons_zero, List.set_cons_succ, i64_w, i32_w]
          rfl
        refine pure_ (i := 31) (N := some 6) (v := ?_) (a' := ?_) #[true, true, true, true, true, true, true, true, true, true, true, true, true, true, true, true, true, true, true, true, true, true, true, true, true, true, true, true, true, true, true, true] rfl rfl (by kernel_rfl) (fun _ _ _ h => h) (Or.inl ⟨by rfl, ?_⟩) ?_ ?_
        rotate_left
        · intro w'
          go_simp
          with_reducible rfl
        rotate_left
        · simp only [Act.put, List.setIfInBounds_toArray, List.set_cons_zero, List.set_cons_succ, i64_w, i32_w]
          rfl
        refine done_ (by kernel_rfl) ?_
        go_wp2_with fail
        go_ret
        exact ⟨rfl, HB.out⟩
      · have e1 : decide ((i : Int) < 32) = false := decide_eq_false (by omega)
        clear hlt hlt1 hki hkk hi32
        have HR := Aside0.mk (Kd.C_below HR0.out HB.out)
        obtain ⟨hCX, hXl, hlc⟩ := C_of_R HX.out
        have HRX := Aside0.mk hCX
        have Hcx := Aside0.mk hlc
        have HXL := Aside0.mk hXl
        have HBX := Aside0.mk HTU.out.2.1
        have HS0 := Aside0.mk (crc_Sum.made_ A0 c0 l0.length l0 rfl _ rfl)
        have HSX := Aside0.mk (crc_Sum.made_ Ax cx l0.length X hXl _ rfl)
        have hbb : (((M.sum (nats l0) : Nat) : Int) == ((M.sum (nats X) : Nat) : Int)) = decide (l0 = X) := by
          have := HTU.out.sum HBC.out HKI.out.1 (by have := HKI.out.2; omega)
          by_cases he : l0 = X
          · rw [decide_eq_true he, this.mpr he]; exact beq_self_eq_true _
          · rw [decide_eq_false he]; exact beq_eq_false_iff_ne.mpr (fun e => he (this.mp (by omega)))
        have HSM := Aside0.mk (same_any (a := l0) (b := X) (by omega))
        have HSS := Aside0.mk (same_any (a := l0) (b := l0) (by omega))
        rw [decide_eq_true rfl] at HSS
        have HSC := Aside0.mk (antiphonref1_Same.calls (l0.length + 1) A0 c0 l0 Ax cx X (decide (l0 = X)))
        rw [hXl] at HSC
        generalize M.sum (nats l0) = s0 at hbb HS0
        generalize M.sum (nats X) = s1 at hbb HSX
        generalize decide (l0 = X) = bb at hbb HSM HSC
        have hbn : (s0 == s1) = bb := by
          rw [← hbb]
          by_cases e : s0 = s1
          · subst e; simp
          · rw [beq_eq_false_iff_ne.mpr e]; exact (beq_eq_false_iff_ne.mpr (fun h => e (by omega))).symm
        have hsl : ((sealI l0).length : Int) = (l0.length : Int) + 4 := by rw [sealI_len]; omega
        have HTK := Aside0.mk (show (sealI l0).take l0.length = l0 by unfold sealI; rw [List.take_left])
        have HLE := Aside0.mk (show l0.length ≤ (sealI l0).length by rw [sealI_len]; omega)
        have HL1 := Aside0.mk (show l0.length < 140737488355000 by omega)
        obtain ⟨i0, hi, hz0, hz1, hz2⟩ := info_parts info5
        have HIN := Aside0.mk hi
        have hwr : wrap64 ((l0.length : Int) + 4) = (l0.length : Int) + 4 := w64 _ (by omega) (by omega)
        clear hCX hXl hlc hi hz0 hz1 hz2 HX HTU
        go_wp2_with fail
        refine start_ (n := 32) (S := fun w' => IsTab true w' g) (ds := []) #[false, false, false, false, false, false, false, false, false, false, false, false, false, false, false, false, false, false, false, false, false, false, false, false, false, false, false, false, false, false, false, false] (by kernel_rfl) rfl rfl ((HI.out.below (by repeat (first | with_reducible exact Below.refl _ _ | with_reducible apply below_drew1 | with_reducible apply pw_below_drewN | with_reducible apply below_alloc)))) (fun hHeld => ?_)
        refine pure_ (i := 1) (N := some 72) (v := ?_) (a' := ?_) #[false, true, false, false, false, false, false, false, false, false, false, false, false, false, false, false, false, false, false, false, false, false, false, false, false, false, false, false, false, false, false, false] rfl rfl (by kernel_rfl) (fun _ _ _ h => h) (Or.inl ⟨by rfl, ?_⟩) ?_ ?_
        rotate_left
        · intro w'
          go_simp
          with_reducible rfl
        rotate_left
        · simp only [Act.put, List.setIfInBounds_toArray, List.set_cons_zero, List.set_cons_succ, i64_w, i32_w]
          rfl
        refine pure_ (i := 4) (N := some 75) (v := ?_) (a' := ?_) #[false, true, false, false, true, false, false, false, false, false, false, false, false, false, false, false, false, false, false, false, false, false, false, false, false, false, false, false, false, false, false, false] rfl rfl (by kernel_rfl) (fun _ _ _ h => h) (Or.inl ⟨by rfl, ?_⟩) ?_ ?_
        rotate_left
        · intro w'
          go_simp
          with_reducible rfl
        rotate_left
        · simp only [Act.put, List.setIfInBounds_toArray, List.set_cons_zero, List.set_cons_succ, i64_w, i32_w]
          rfl
        refine pure_ (i := 7) (N := some 78) (v := ?_) (a' := ?_) #[false, true, false, false, true, false, false, true, false, false, false, false, false, false, false, false, false, false, false, false, false, false, false, false, false, false, false, false, false, false, false, false] rfl rfl (by kernel_rfl) (fun _ _ _ h => h) (Or.inl ⟨by rfl, ?_⟩) ?_ ?_
        rotate_left
        · intro w'
          go_simp
          with_reducible rfl
        rotate_left
        · simp only [Act.put, List.setIfInBounds_toArray, List.set_cons_zero, List.set_cons_succ, i64_w, i32_w]
          rfl
        refine pure_ (i := 8) (N := some 79) (v := ?_) (a' := ?_) #[false, true, false, false, true, false, false, true, true, false, false, false, false, false, false, false, false, false, false, false, false, false, false, false, false, false, false, false, false, false, false, false] rfl rfl (by kernel_rfl) (fun _ _ _ h => h) (Or.inl ⟨by rfl, ?_⟩) ?_ ?_
        rotate_left
        · intro w'
          go_simp
          with_reducible rfl
        rotate_left
        · simp only [Act.put, List.setIfInBounds_toArray, List.set_cons_zero, List.set_cons_succ, i64_w, i32_w]
          rfl
        refine take_ (i := 0) (N := some 71) (v := tabV true) #[true, true, false, false, true, false, false, true, true, false, false, false, false, false, false, false, false, false, false, false, false, false, false, false, false, false, false, false, false, false, false, false] rfl rfl (by kernel_rfl) (fun _ _ _ h => h) ?_ hHeld rfl ?_
        · exact yields_tab (by rfl) _ rfl _ rfl true (by intro w' s0; exact s0)
        refine norm_ (a' := ?_) ?_ ?_
        rotate_left
        · show Act.put _ (some 71) _ = _
          simp only [Act.put, List.setIfInBounds_toArray, List.set_cons_zero, List.set_cons_succ, i64_w, i32_w]
          rfl
        refine take_ (i := 3) (N := some 74) (v := tabV true) #[true, true, false, true, true, false, false, true, true, false, false, false, false, false, false, false, false, false, false, false, false, false, false, false, false, false, false, false, false, false, false, false] rfl rfl (by kernel_rfl) (fun _ _ _ h => h) ?_ hHeld rfl ?_
        · exact yields_tab (by rfl) _ rfl _ rfl true (by intro w' s0; exact s0)
        refine norm_ (a' := ?_) ?_ ?_
        rotate_left
        · show Act.put _ (some 74) _ = _
          simp only [Act.put, List.setIfInBounds_toArray, List.set_cons_zero, List.set_cons_succ, i64_w, i32_w]
          rfl
        refine one_ (i := 2) (N := some 73) #[true, true, true, true, true, false, false, true, true, false, false, false, false, false, false, false, false, false, false, false, false, false, false, false, false, false, false, false, false, false, false, false] rfl rfl (by kernel_rfl) (by decide) (fun K hK => ?_)
        refine goes_ Try.func21 (by kernel_rfl) rfl #[tabV true, .slice A0 l0.length c0] (by rfl) rfl rfl (by simp only [List.map_toArray, List.map_cons, List.map_nil]; rfl) ?_
        refine (HS0.out _ (Kd.C_below HR.out (by repeat (first | with_reducible exact Below.refl _ _ | with_reducible apply below_drew1 | with_reducible apply pw_below_drewN | with_reducible apply below_alloc))) HC.out HBY.out).mono ?_
        rintro e w4 ⟨rfl, hB⟩
        refine ⟨_, rfl, ?_⟩
        have hS := (show Below wr.heap.size wr w4 from below_step (by repeat (first | with_reducible exact Below.refl _ _ | with_reducible apply below_drew1 | with_reducible apply pw_below_drewN | with_reducible apply below_alloc)) hB)
        replace HRX := Aside0.mk (Kd.C_below HRX.out hS)
        replace HR := Aside0.mk (Kd.C_below HR.out hS)
        replace HI := Aside0.mk (HI.out.below hS)
        replace HB := Aside0.mk (below_step HB.out hS)
        clear hS hB
        refine hK.out _ _ ((HI.out.below (by repeat (first | with_reducible exact Below.refl _ _ | with_reducible apply below_drew1 | with_reducible apply pw_below_drewN | with_reducible apply below_alloc)))) (fun hHeld => ?_)
        clear hK K
        refine norm_ (a' := ?_) ?_ ?_
        rotate_left
        · show Act.put _ (some 73) _ = _
          simp only [Act.put, List.setIfInBounds_toArray, List.set_cons_zero, List.set_cons_succ, i64_w, i32_w]
          rfl
        refine one_ (i := 5) (N := some 76) #[true, true, true, true, true, true, false, true, true, false, false, false, false, false, false, false, false, false, false, false, false, false, false, false, false, false, false, false, false, false, false, false] rfl rfl (by kernel_rfl) (by decide) (fun K hK => ?_)
        refine goes_ Try.func21 (by kernel_rfl) rfl #[tabV true, .slice Ax l0.length cx] (by rfl) rfl rfl (by simp only [List.map_toArray, List.map_cons, List.map_nil]; rfl) ?_
        refine (HSX.out _ (Kd.C_below HRX.out (by repeat (first | with_reducible exact Below.refl _ _ | with_reducible apply below_drew1 | with_reducible apply pw_below_drewN | with_reducible apply below_alloc))) Hcx.out HBX.out).mono ?_
        rintro e w5 ⟨rfl, hB⟩
        refine ⟨_, rfl, ?_⟩
        have hS := (show Below w4.heap.size w4 w5 from below_step (by repeat (first | with_reducible exact Below.refl _ _ | with_reducible apply below_drew1 | with_reducible apply pw_below_drewN | with_reducible apply below_alloc)) hB)
        replace HRX := Aside0.mk (Kd.C_below HRX.out hS)
        replace HR := Aside0.mk (Kd.C_below HR.out hS)
        replace HI := Aside0.mk (HI.out.below hS)
        replace HB := Aside0.mk (below_step HB.out hS)
        clear hS hB
        refine hK.out _ _ ((HI.out.below (by repeat (first | with_reducible exact Below.refl _ _ | with_reducible apply below_drew1 | with_reducible apply pw_below_drewN | with_reducible apply below_alloc)))) (fun hHeld => ?_)
        clear hK K
        refine norm_ (a' := ?_) ?_ ?_
        rotate_left
        · show Act.put _ (some 76) _ = _
          simp only [Act.put, List.setIfInBounds_toArray, List.set_cons_zero, List.set_cons_succ, i64_w, i32_w]
          rfl
        refine pure_ (i := 6) (N := some 77) (v := ?_) (a' := ?_) #[true, true, true, true, true, true, true, true, true, false, false, false, false, false, false, false, false, false, false, false, false, false, false, false, false, false, false, false, false, false, false, false] rfl rfl (by kernel_rfl) (fun _ _ _ h => h) (Or.inl ⟨by rfl, ?_⟩) ?_ ?_
        rotate_left
        · intro w'
          go_simp
          with_reducible rfl
        rotate_left
        · simp only [Act.put, List.setIfInBounds_toArray, List.set_cons_zero, List.set_cons_succ, i64_w, i32_w]
          rfl
        refine one_ (i := 9) (N := some 80) #[true, true, true, true, true, true, true, true, true, true, false, false, false, false, false, false, false, false, false, false, false, false, false, false, false, false, false, false, false, false, false, false] rfl rfl (by kernel_rfl) (by decide) (fun K hK => ?_)
        refine goes_ Try.func25 (by kernel_rfl) rfl #[.slice A0 l0.length c0, .slice Ax l0.length cx] (by rfl) rfl rfl (by simp only [List.map_toArray, List.map_cons, List.map_nil]; rfl) ?_
        refine (HSC.out _ (Kd.C_below HR.out (by repeat (first | with_reducible exact Below.refl _ _ | with_reducible apply below_drew1 | with_reducible apply pw_below_drewN | with_reducible apply below_alloc))) HC.out (Kd.C_below HRX.out (by repeat (first | with_reducible exact Below.refl _ _ | with_reducible apply below_drew1 | with_reducible apply pw_below_drewN | with_reducible apply below_alloc))) Hcx.out HSM.out).mono ?_
        rintro e w6 ⟨rfl, hd⟩
        refine ⟨_, rfl, ?_⟩
        have hS := (show Below w5.heap.size w5 w6 from below_step (by repeat (first | with_reducible exact Below.refl _ _ | with_reducible apply below_drew1 | with_reducible apply pw_below_drewN | with_reducible apply below_alloc)) (Drawn0.below hd))
        replace HRX := Aside0.mk (Kd.C_below HRX.out hS)
        replace HR := Aside0.mk (Kd.C_below HR.out hS)
        replace HI := Aside0.mk (HI.out.below hS)
        replace HB := Aside0.mk (below_step HB.out hS)
        clear hS hd
        refine hK.out _ _ ((HI.out.below (by repeat (first | with_reducible exact Below.refl _ _ | with_reducible apply below_drew1 | with_reducible apply pw_below_drewN | with_reducible apply below_alloc)))) (fun hHeld => ?_)
        clear hK K
        refine norm_ (a' := ?_) ?_ ?_
        rotate_left
        · show Act.put _ (some 80) _ = _
          simp only [Act.put, List.setIfInBounds_toArray, List.set_cons_zero, List.set_cons_succ, i64_w, i32_w]
          rfl
        refine pure_ (i := 10) (N := some 81) (v := ?_) (a' := ?_) #[true, true, true, true, true, true, true, true, true, true, true, false, false, false, false, false, false, false, false, false, false, false, false, false, false, false, false, false, false, false, false, false] rfl rfl (by kernel_rfl) (fun _ _ _ h => h) (Or.inl ⟨by rfl, ?_⟩) ?_ ?_
        rotate_left
        · intro w'
          go_simp
          with_reducible rfl
        rotate_left
        · simp only [Act.put, List.setIfInBounds_toArray, List.set_cons_zero, List.set_cons_succ, i64_w, i32_w]
          rfl
        refine pure_ (i := 11) (N := some 82) (v := ?_) (a' := ?_) #[true, true, true, true, true, true, true, true, true, true, true, true, false, false, false, false, false, false, false, false, false, false, false, false, false, false, false, false, false, false, false, false] rfl rfl (by kernel_rfl) (fun _ _ _ h => h) (Or.inl ⟨by rfl, ?_⟩) ?_ ?_
        rotate_left
        · intro w'
          go_simp
          with_reducible rfl
        rotate_left
        · simp only [Act.put, List.setIfInBounds_toArray, List.set_cons_zero, List.set_cons_succ, i64_w, i32_w]
          rfl
        refine pure_ (i := 13) (N := some 84) (v := ?_) (a' := ?_) #[true, true, true, true, true, true, true, true, true, true, true, true, false, true, false, false, false, false, false, false, false, false, false, false, false, false, false, false, false, false, false, false] rfl rfl (by kernel_rfl) (fun _ _ _ h => h) (Or.inl ⟨by rfl, ?_⟩) ?_ ?_
        rotate_left
        · intro w'
          go_simp
          with_reducible rfl
        rotate_left
        · simp only [Act.put, List.setIfInBounds_toArray, List.set_cons_zero, List.set_cons_succ, i64_w, i32_w]
          rfl
        refine pure_ (i := 16) (N := some 87) (v := ?_) (a' := ?_) #[true, true, true, true, true, true, true, true, true, true, true, true, false, true, false, false, true, false, false, false, false, false, false, false, false, false, false, false, false, false, false, false] rfl rfl (by kernel_rfl) (fun _ _ _ h => h) (Or.inl ⟨by rfl, ?_⟩) ?_ ?_
        rotate_left
        · intro w'
          go_simp
          with_reducible rfl
        rotate_left
        · simp only [Act.put, List.setIfInBounds_toArray, List.set_cons_zero, List.set_cons_succ, i64_w, i32_w]
          rfl
        refine pure_ (i := 17) (N := some 88) (v := ?_) (a' := ?_) #[true, true, true, true, true, true, true, true, true, true, true, true, false, true, false, false, true, true, false, false, false, false, false, false, false, false, false, false, false, false, false, false] rfl rfl (by kernel_rfl) (fun _ _ _ h => h) (Or.inl ⟨by rfl, ?_⟩) ?_ ?_
        rotate_left
        · intro w'
          go_simp
          with_reducible rfl
        rotate_left
        · simp only [Act.put, List.setIfInBounds_toArray, List.set_cons_zero, List.set_cons_succ, i64_w, i32_w]
          rfl
        refine pure_ (i := 18) (N := some 89) (v := ?_) (a' := ?_) #[true, true, true, true, true, true, true, true, true, true, true, true, false, true, false, false, true, true, true, false, false, false, false, false, false, false, false, false, false, false, false, false] rfl rfl (by kernel_rfl) (fun _ _ _ h => h) (Or.inl ⟨by rfl, ?_⟩) ?_ ?_
        rotate_left
        · intro w'
          go_simp
          with_reducible rfl
        rotate_left
        · simp only [Act.put, List.setIfInBounds_toArray, List.set_cons_zero, List.set_cons_succ, i64_w, i32_w]
          rfl
        refine take_ (i := 12) (N := some 83) (v := tabV true) #[true, true, true, true, true, true, true, true, true, true, true, true, true, true, false, false, true, true, true, false, false, false, false, false, false, false, false, false, false, false, false, false] rfl rfl (by kernel_rfl) (fun _ _ _ h => h) ?_ hHeld rfl ?_
        · exact yields_tab (by rfl) _ rfl _ rfl true (by intro w' s0; exact s0)
        refine norm_ (a' := ?_) ?_ ?_
        rotate_left
        · show Act.put _ (some 83) _ = _
          simp only [Act.put, List.setIfInBounds_toArray, List.set_cons_zero, List.set_cons_succ, i64_w, i32_w]
          rfl
        refine one_ (i := 14) (N := some 85) #[true, true, true, true, true, true, true, true, true, true, true, true, true, true, true, false, true, true, true, false, false, false, false, false, false, false, false, false, false, false, false, false] rfl rfl (by kernel_rfl) (by decide) (fun K hK => ?_)
        refine goes_ Try.func26 (by kernel_rfl) rfl #[tabV true, .slice A0 l0.length c0] (by rfl) rfl rfl (by simp only [List.map_toArray, List.map_cons, List.map_nil]; rfl) ?_
        refine (crc_Seal.calls _ _ _ _ (Kd.C_below HR.out (by repeat (first | with_reducible exact Below.refl _ _ | with_reducible apply below_drew1 | with_reducible apply pw_below_drewN | with_reducible apply below_alloc))) HC.out HBY.out HL1.out).mono ?_
        rintro e w7 ⟨v7, rfl, hR, hB⟩
        refine ⟨_, rfl, ?_⟩
        have hS := (show Below w6.heap.size w6 w7 from below_step (by repeat (first | with_reducible exact Below.refl _ _ | with_reducible apply below_drew1 | with_reducible apply pw_below_drewN | with_reducible apply below_alloc)) hB)
        replace HRX := Aside0.mk (Kd.C_below HRX.out hS)
        replace HR := Aside0.mk (Kd.C_below HR.out hS)
        replace HI := Aside0.mk (HI.out.below hS)
        replace HB := Aside0.mk (below_step HB.out hS)
        obtain ⟨A7, c7, rfl, hc_, hC_⟩ := Kd.R_reads hR
        have HC7 := Aside0.mk hC_
        have Hc7 := Aside0.mk hc_
        clear hR hC_ hc_
        clear hS hB
        refine hK.out _ _ ((HI.out.below (by repeat (first | with_reducible exact Below.refl _ _ | with_reducible apply below_drew1 | with_reducible apply pw_below_drewN | with_reducible apply below_alloc)))) (fun hHeld => ?_)
        clear hK K
        refine norm_ (a' := ?_) ?_ ?_
        rotate_left
        · show Act.put _ (some 85) _ = _
          simp only [Act.put, List.setIfInBounds_toArray, List.set_cons_zero, List.set_cons_succ, i64_w, i32_w]
          rfl
        refine pure_ (i := 15) (N := some 86) (v := ?_) (a' := ?_) #[true, true, true, true, true, true, true, true, true, true, true, true, true, true, true, true, true, true, true, false, false, false, false, false, false, false, false, false, false, false, false, false] rfl rfl (by kernel_rfl) (fun _ _ _ h => h) (Or.inl ⟨by rfl, ?_⟩) ?_ ?_
        rotate_left
        · intro w'
          go_simp
          with_reducible rfl
        rotate_left
        · simp only [Act.put, List.setIfInBounds_toArray, List.set_cons_zero, List.set_cons_succ, i64_w, i32_w]
          rfl
        refine pure_ (i := 19) (N := some 90) (v := ?_) (a' := ?_) #[true, true, true, true, true, true, true, true, true, true, true, true, true, true, true, true, true, true, true, true, false, false, false, false, false, false, false, false, false, false, false, false] rfl rfl (by kernel_rfl) (fun _ _ _ h => h) (Or.inl ⟨by rfl, ?_⟩) ?_ ?_
        rotate_left
        · intro w'
          go_simp
          with_reducible rfl
        rotate_left
        · simp only [Act.put, List.setIfInBounds_toArray, List.set_cons_zero, List.set_cons_succ, i64_w, i32_w]
          rfl
        refine pure_ (i := 20) (N := some 91) (v := ?_) (a' := ?_) #[true, true, true, true, true, true, true, true, true, true, true, true, true, true, true, true, true, true, true, true, true, false, false, false, false, false, false, false, false, false, false, false] rfl rfl (by kernel_rfl) (fun _ _ _ h => h) (Or.inl ⟨by rfl, ?_⟩) ?_ ?_
        rotate_left
        · intro w'
          go_simp
          with_reducible rfl
        rotate_left
        · simp only [Act.put, List.setIfInBounds_toArray, List.set_cons_zero, List.set_cons_succ, i64_w, i32_w]
          rfl
        refine pure_ (i := 21) (N := some 92) (v := ?_) (a' := ?_) #[true, true, true, true, true, true, true, true, true, true, true, true, true, true, true, true, true, true, true, true, true, true, false, false, false, false, false, false, false, false, false, false] rfl rfl (by kernel_rfl) (fun _ _ _ h => h) (Or.inl ⟨by rfl, ?_⟩) ?_ ?_
        rotate_left
        · intro w'
          go_simp
          with_reducible rfl
        rotate_left
        · simp only [Act.put, List.setIfInBounds_toArray, List.set_cons_zero, List.set_cons_succ, i64_w, i32_w]
          rfl
        refine pure_ (i := 23) (N := some 94) (v := ?_) (a' := ?_) #[true, true, true, true, true, true, true, true, true, true, true, true, true, true, true, true, true, true, true, true, true, true, false, true, false, false, false, false, false, false, false, false] rfl rfl (by kernel_rfl) (fun _ _ _ h => h) (Or.inl ⟨by rfl, ?_⟩) ?_ ?_
        rotate_left
        · intro w'
          go_simp
          with_reducible rfl
        rotate_left
        · simp only [Act.put, List.setIfInBounds_toArray, List.set_cons_zero, List.set_cons_succ, i64_w, i32_w]
          rfl
        refine pure_ (i := 25) (N := some 96) (v := ?_) (a' := ?_) #[true, true, true, true, true, true, true, true, true, true, true, true, true, true, true, true, true, true, true, true, true, true, false, true, false, true, false, false, false, false, false, false] rfl rfl (by kernel_rfl) (fun _ _ _ h => h) (Or.inl ⟨by rfl, ?_⟩) ?_ ?_
        rotate_left
        · intro w'
          go_simp
          with_reducible rfl
        rotate_left
        · simp only [Act.put, List.setIfInBounds_toArray, List.set_cons_zero, List.set_cons_succ, i64_w, i32_w]
          rfl
        refine pure_ (i := 26) (N := some 97) (v := ?_) (a' := ?_) #[true, true, true, true, true, true, true, true, true, true, true, true, true, true, true, true, true, true, true, true, true, true, false, true, false, true, true, false, false, false, false, false] rfl rfl (by kernel_rfl) (fun _ _ _ h => h) (Or.inl ⟨by rfl, ?_⟩) ?_ ?_
        rotate_left
        · intro w'
          go_simp
          with_reducible rfl
        rotate_left
        · simp only [Act.put, List.setIfInBounds_toArray, List.set_cons_zero, List.set_cons_succ, i64_w, i32_w]
          rfl
        refine pure_ (i := 28) (N := some 99) (v := ?_) (a' := ?_) #[true, true, true, true, true, true, true, true, true, true, true, true, true, true, true, true, true, true, true, true, true, true, false, true, false, true, true, false, true, false, false, false] rfl rfl (by kernel_rfl) (fun _ _ _ h => h) (Or.inl ⟨by rfl, ?_⟩) ?_ ?_
        rotate_left
        · intro w'
          go_simp
          with_reducible rfl
        rotate_left
        · simp only [Act.put, List.setIfInBounds_toArray, List.set_cons_zero, List.set_cons_succ, i64_w, i32_w]
          rfl
        refine take_ (i := 22) (N := some 93) (v := tabV true) #[true, true, true, true, true, true, true, true, true, true, true, true, true, true, true, true, true, true, true, true, true, true, true, true, false, true, true, false, true, false, false, false] rfl rfl (by kernel_rfl) (fun _ _ _ h => h) ?_ hHeld rfl ?_
        · exact yields_tab (by rfl) _ rfl _ rfl true (by intro w' s0; exact s0)
        refine norm_ (a' := ?_) ?_ ?_
        rotate_left
        · show Act.put _ (some 93) _ = _
          simp only [Act.put, List.setIfInBounds_toArray, List.set_cons_zero, List.set_cons_succ, i64_w, i32_w]
          rfl
        refine one_ (i := 24) (N := some 95) #[true, true, true, true, true, true, true, true, true, true, true, true, true, true, true, true, true, true, true, true, true, true, true, true, true, true, true, false, true, false, false, false] rfl rfl (by kernel_rfl) (by decide) (fun K hK => ?_)
        refine goes_ Try.func26 (by kernel_rfl) rfl #[tabV true, .slice A0 l0.length c0] (by rfl) rfl rfl (by simp only [List.map_toArray, List.map_cons, List.map_nil]; rfl) ?_
        refine (crc_Seal.calls _ _ _ _ (Kd.C_below HR.out (by repeat (first | with_reducible exact Below.refl _ _ | with_reducible apply below_drew1 | with_reducible apply pw_below_drewN | with_reducible apply below_alloc))) HC.out HBY.out HL1.out).mono ?_
        rintro e w8 ⟨v8, rfl, hR, hB⟩
        refine ⟨_, rfl, ?_⟩
        have hS := (show Below w7.heap.size w7 w8 from below_step (by repeat (first | with_reducible exact Below.refl _ _ | with_reducible apply below_drew1 | with_reducible apply pw_below_drewN | with_reducible apply below_alloc)) hB)
        replace HRX := Aside0.mk (Kd.C_below HRX.out hS)
        replace HR := Aside0.mk (Kd.C_below HR.out hS)
        replace HI := Aside0.mk (HI.out.below hS)
        replace HB := Aside0.mk (below_step HB.out hS)
        obtain ⟨A8, c8, rfl, hc_, hC_⟩ := Kd.R_reads hR
        have HC8 := Aside0.mk hC_
        have Hc8 := Aside0.mk hc_
        clear hR hC_ hc_
        have q8 := cut_to 22 5 .i64 (P := Try.prog) Try.underlying22 HIN.out A8 (sealI l0).length c8 (l0.length : Int) (Int.natCast_nonneg _) (Int.ofNat_le.mpr HLE.out) Hc8.out
        rw [Int.toNat_natCast] at q8
        have hT8 := Kd.C_take HC8.out HLE.out
        rw [HTK.out] at hT8
        have HT8 := Aside0.mk hT8
        have HC8' := Aside0.mk (Nat.le_trans HLE.out Hc8.out)
        clear hT8
        clear hS hB
        refine hK.out _ _ ((HI.out.below (by repeat (first | with_reducible exact Below.refl _ _ | with_reducible apply below_drew1 | with_reducible apply pw_below_drewN | with_reducible apply below_alloc)))) (fun hHeld => ?_)
        clear hK K
        refine norm_ (a' := ?_) ?_ ?_
        rotate_left
        · show Act.put _ (some 95) _ = _
          simp only [Act.put, List.setIfInBounds_toArray, List.set_cons_zero, List.set_cons_succ, i64_w, i32_w]
          rfl
        refine pure_ (i := 27) (N := some 98) (v := ?_) (a' := ?_) #[true, true, true, true, true, true, true, true, true, true, true, true, true, true, true, true, true, true, true, true, true, true, true, true, true, true, true, true, true, false, false, false] rfl rfl (by kernel_rfl) (fun _ _ _ h => h) (Or.inl ⟨by rfl, ?_⟩) ?_ ?_
        rotate_left
        · intro w'
          go_simp
          with_reducible rfl
        rotate_left
        · simp only [Act.put, List.setIfInBounds_toArray, List.set_cons_zero, List.set_cons_succ, i64_w, i32_w]
          rfl
        refine one_ (i := 29) (N := some 100) #[true, true, true, true, true, true, true, true, true, true, true, true, true, true, true, true, true, true, true, true, true, true, true, true, true, true, true, true, true, true, false, false] rfl rfl (by kernel_rfl) (by decide) (fun K hK => ?_)
        refine goes_ Try.func25 (by kernel_rfl) rfl #[.slice A8 l0.length c8, .slice A0 l0.length c0] (by rfl) rfl rfl (by simp only [List.map_toArray, List.map_cons, List.map_nil]; rfl) ?_
        refine (antiphonref1_Same.calls _ _ _ _ _ _ _ _ _ (Kd.C_below HT8.out (by repeat (first | with_reducible exact Below.refl _ _ | with_reducible apply below_drew1 | with_reducible apply pw_below_drewN | with_reducible apply below_alloc))) HC8'.out (Kd.C_below HR.out (by repeat (first | with_reducible exact Below.refl _ _ | with_reducible apply below_drew1 | with_reducible apply pw_below_drewN | with_reducible apply below_alloc))) HC.out HSS.out).mono ?_
        rintro e w9 ⟨rfl, hd⟩
        refine ⟨_, rfl, ?_⟩
        have hS := (show Below w8.heap.size w8 w9 from below_step (by repeat (first | with_reducible exact Below.refl _ _ | with_reducible apply below_drew1 | with_reducible apply pw_below_drewN | with_reducible apply below_alloc)) (Drawn0.below hd))
        replace HRX := Aside0.mk (Kd.C_below HRX.out hS)
        replace HR := Aside0.mk (Kd.C_below HR.out hS)
        replace HT8 := Aside0.mk (Kd.C_below HT8.out hS)
        replace HI := Aside0.mk (HI.out.below hS)
        replace HB := Aside0.mk (below_step HB.out hS)
        clear hS hd
        refine hK.out _ _ ((HI.out.below (by repeat (first | with_reducible exact Below.refl _ _ | with_reducible apply below_drew1 | with_reducible apply pw_below_drewN | with_reducible apply below_alloc)))) (fun hHeld => ?_)
        clear hK K
        refine norm_ (a' := ?_) ?_ ?_
        rotate_left
        · show Act.put _ (some 100) _ = _
          simp only [Act.put, List.setIfInBounds_toArray, List.set_cons_zero, List.set_cons_succ, i64_w, i32_w]
          rfl
        refine pure_ (i := 30) (N := some 101) (v := ?_) (a' := ?_) #[true, true, true, true, true, true, true, true, true, true, true, true, true, true, true, true, true, true, true, true, true, true, true, true, true, true, true, true, true, true, true, false] rfl rfl (by kernel_rfl) (fun _ _ _ h => h) (Or.inl ⟨by rfl, ?_⟩) ?_ ?_
        rotate_left
        · intro w'
          go_simp
          with_reducible rfl
        rotate_left
        · simp only [Act.put, List.setIfInBounds_toArray, List.set_cons_zero, List.set_cons_succ, i64_w, i32_w]
          rfl
        refine pure_ (i := 31) (N := some 6) (v := ?_) (a' := ?_) #[true, true, true, true, true, true, true, true, true, true, true, true, true, true, true, true, true, true, true, true, true, true, true, true, true, true, true, true, true, true, true, true] rfl rfl (by kernel_rfl) (fun _ _ _ h => h) (Or.inl ⟨by rfl, ?_⟩) ?_ ?_
        rotate_left
        · intro w'
          go_simp
          with_reducible rfl
        rotate_left
        · simp only [Act.put, List.setIfInBounds_toArray, List.set_cons_zero, List.set_cons_succ, i64_w, i32_w]
          rfl
        refine done_ (by kernel_rfl) ?_
        go_wp2_with fail
        go_ret
        exact ⟨rfl, HB.out⟩
end Go.Proofs.Ytpalloofjljhkaa.P
