-- Written by this session (wip/crc/mklaws.py).
import Derived.Test.YtpalloofjljhkaaRef
namespace Go.Proofs.Ytpalloofjljhkaa.P
open Go.RowKit Go.Proofs.Ytpalloofjljhkaa.Lib Go.Proofs.YtpalloofjljhkaaW.PrintWords Go.Proofs.YtpalloofjljhkaaW.PrintLast Go.Proofs.YtpalloofjljhkaaW.PrintMore
set_option linter.unusedVariables false
set_option linter.unusedSimpArgs false
def antiphonlaw2_CrcLinear.f (l0 l1 l2 : List Int) : Option Bool := if (∀ c ∈ l0, 0 ≤ c ∧ c < 256) ∧ (∀ c ∈ l1, 0 ≤ c ∧ c < 256) ∧ (∀ c ∈ l2, 0 ≤ c ∧ c < 256) then some true else none
theorem linear_open {l0 l1 l2 : List Int} {r : Bool} (h : antiphonlaw2_CrcLinear.f l0 l1 l2 = some r) : true = r ∧ byteRow l0 ∧ byteRow l1 ∧ byteRow l2 := by
  unfold antiphonlaw2_CrcLinear.f at h
  split at h
  · rename_i hh; exact ⟨Option.some.inj h, hh⟩
  · cases h
/-- A row of the call's own that is not empty lies at the head of a block. -/
theorem R_some {e base : Nat} {ok : Nat → Prop} {W : World} {A : Option Addr} {n c : Nat} {xs : List Int} (h : Kd.R (Kd.int .u8) e W base ok (.slice A n c) xs) (hn : 0 < xs.length) : ∃ g, A = some ⟨g, 0, none⟩ := by
  obtain ⟨_, inner, ho, _⟩ := h
  rcases ho.2 with ⟨_, h0⟩ | ⟨g, cap, cur, he, _⟩
  · omega
  · injection he with h1
    exact ⟨g, h1⟩
def x3 (a b c : List Nat) : List Nat := List.zipWith (· ^^^ ·) (List.zipWith (· ^^^ ·) a b) c
theorem x3_len {a b c : List Nat} {k : Nat} (ha : k ≤ a.length) (hb : k ≤ b.length) (hc : k ≤ c.length) : (x3 (a.take k) (b.take k) (c.take k)).length = k := by
  unfold x3
  simp only [List.length_zipWith, List.length_take]
  omega
theorem x3_snoc {a b c : List Nat} {k : Nat} (ha : k < a.length) (hb : k < b.length) (hc : k < c.length) :
    x3 (a.take (k + 1)) (b.take (k + 1)) (c.take (k + 1)) = x3 (a.take k) (b.take k) (c.take k) ++ [a[k] ^^^ b[k] ^^^ c[k]] := by
  unfold x3
  rw [List.take_succ_eq_append_getElem ha, List.take_succ_eq_append_getElem hb, List.take_succ_eq_append_getElem hc, List.zipWith_append (by rw [List.length_take, List.length_take]; omega), List.zipWith_append (by simp only [List.length_zipWith, List.length_take]; omega)]
  rfl
theorem x3_set {a b c : List Nat} {k z : Nat} (ha : k < a.length) (hb : k < b.length) (hc : k < c.length) (hz : z = a[k] ^^^ b[k] ^^^ c[k]) :
    (x3 (a.take k) (b.take k) (c.take k) ++ a.drop k).set k z = x3 (a.take (k + 1)) (b.take (k + 1)) (c.take (k + 1)) ++ a.drop (k + 1) := by
  have hl := x3_len (a := a) (b := b) (c := c) (k := k) (by omega) (by omega) (by omega)
  rw [List.set_append_right _ _ (by omega), hl, Nat.sub_self, List.drop_eq_getElem_cons ha, x3_snoc ha hb hc, hz, List.append_assoc]
  rfl
theorem sum_x3 {a b c : List Nat} (hb : b.length = a.length) (hc : c.length = a.length) : M.sum (x3 a b c) = M.sum a ^^^ M.sum b ^^^ M.sum c := by
  have h1 : M.run 4294967295 (x3 a b c) = M.run 4294967295 a ^^^ M.run 4294967295 b ^^^ M.run 4294967295 c := by
    unfold x3
    have e : (4294967295 : Nat) = (4294967295 ^^^ 4294967295) ^^^ 4294967295 := by decide
    conv => lhs; rw [e]
    rw [M.run_zip _ _ _ _ (by simp only [List.length_zipWith]; omega), M.run_zip _ _ _ _ hb]
  unfold M.sum
  rw [h1]
  generalize M.run 4294967295 a = x
  generalize M.run 4294967295 b = y
  generalize M.run 4294967295 c = z
  have e : (4294967295 : Nat) ^^^ (x ^^^ y ^^^ z) = (4294967295 ^^^ 4294967295 ^^^ 4294967295) ^^^ (x ^^^ y ^^^ z) := by rw [Nat.xor_self, Nat.zero_xor]
  rw [e, M.xor4 (4294967295 ^^^ 4294967295) 4294967295 (x ^^^ y) z, M.xor4 4294967295 4294967295 x y]
theorem nats_set (X : List Int) (k : Nat) (v : Int) : nats (X.set k v) = (nats X).set k v.toNat := by unfold nats; rw [List.map_set]
theorem nats_get {l : List Int} {k : Nat} (h : k < l.length) : (nats l)[k]'(by unfold nats; rw [List.length_map]; exact h) = (l.getD k 0).toNat := by
  unfold nats
  rw [List.getElem_map, List.getD_eq_getElem?_getD, List.getElem?_eq_getElem h]
  rfl
theorem nats_len (l : List Int) : (nats l).length = l.length := by unfold nats; rw [List.length_map]
theorem nats_take (l : List Int) (k : Nat) : nats (l.take k) = (nats l).take k := by unfold nats; rw [List.map_take]
theorem byteRow_set {X : List Int} (h : byteRow X) {k : Nat} {v : Int} (hv : 0 ≤ v ∧ v < 256) : byteRow (X.set k v) := by
  intro c hc
  rcases List.mem_or_eq_of_mem_set hc with hc | rfl
  · exact h c hc
  · exact hv
theorem x8 {a b : Int} (ha : 0 ≤ a ∧ a < 256) (hb : 0 ≤ b ∧ b < 256) : Go.bits .xor .u8 a b = ((a.toNat ^^^ b.toNat : Nat) : Int) ∧ a.toNat ^^^ b.toNat < 256 :=
  ⟨u8_xor a b ha.1 ha.2 hb.1 hb.2, Nat.xor_lt_two_pow (n := 8) (by omega) (by omega)⟩
theorem crc_Sum.made' (A0 : Option Addr) (c0 n : Nat) (l0 : List Int) (hn : l0.length = n) (s : Nat) (hs : M.sum (nats l0) = s) (w : World) (hr0 : Kd.C (Kd.int .u8) w A0 n l0) (hc0 : n ≤ c0) (hb : byteRow l0) :
    Calls Try.prog 21 #[tabV true, .slice A0 n c0] w fun e w' => e = .returned (.int .u32 (s : Int)) ∧ Below w.heap.size w w' := by
  subst hn
  have := crc_Sum.calls true A0 c0 l0 w hr0 hc0 hb
  rw [moreN_true, M.sum_more, hs] at this
  exact this
set_option maxHeartbeats 8000000 in
set_option maxRecDepth 100000 in
theorem antiphonlaw2_CrcLinear.calls (A0 : Option Addr) (c0 : Nat) (l0 : List Int) (A1 : Option Addr) (c1 : Nat) (l1 : List Int) (A2 : Option Addr) (c2 : Nat) (l2 : List Int) (r : Bool) (w : World) (hr0 : Kd.C (Kd.int .u8) w A0 l0.length l0) (hc0 : l0.length ≤ c0) (hr1 : Kd.C (Kd.int .u8) w A1 l1.length l1) (hc1 : l1.length ≤ c1) (hr2 : Kd.C (Kd.int .u8) w A2 l2.length l2) (hc2 : l2.length ≤ c2) (h : antiphonlaw2_CrcLinear.f l0 l1 l2 = some r) :
    Calls Try.prog 4 #[.slice A0 l0.length c0, .slice A1 l1.length c1, .slice A2 l2.length c2] w fun e w' => e = .returned (.bool r) ∧ Below w.heap.size w w' := by
  obtain ⟨rfl, hb, hb1, hb2⟩ := linear_open h
  clear h
  have HB := Aside0.mk (Below.refl w.heap.size w)
  have HR := Aside0.mk hr0
  have HC := Aside0.mk hc0
  have HBY := Aside0.mk hb
  have hm0 : l0.length ≤ 9223372036854775807 := hr0.2.1
  have hm1 : l1.length ≤ 9223372036854775807 := hr1.2.1
  have hm2 : l2.length ≤ 9223372036854775807 := hr2.2.1
  by_cases hl : l0.length ≤ 500
  case neg =>
    have d1 : decide ((500 : Int) < (l0.length : Int)) = true := decide_eq_true (by omega)
    clear hr0 hc0 hb hl hr1 hc1 hb1 hr2 hc2 hb2
    go_enter Try.func4, Try.ntmps4
    go_wp2_with fail
    refine (antiphonlaw2_awake.calls true _ rfl).mono ?_
    rintro e wa ⟨rfl, hB⟩
    have hS := (show Below w.heap.size w wa from below_step (by repeat (first | with_reducible exact Below.refl _ _ | with_reducible apply below_drew1 | with_reducible apply pw_below_drewN | with_reducible apply below_alloc)) hB)
    replace HR := Aside0.mk (Kd.C_below HR.out hS)
    replace HB := Aside0.mk (below_step HB.out hS)
    clear hS hB
    go_wp2_with fail
    go_ret
    exact ⟨rfl, HB.out⟩
  have d1 : decide ((500 : Int) < (l0.length : Int)) = false := decide_eq_false (by omega)
  by_cases hl1 : l0.length ≤ l1.length
  case neg =>
    have d2 : decide (l1.length < l0.length) = true := decide_eq_true (by omega)
    clear hr0 hc0 hb hl hr1 hc1 hb1 hr2 hc2 hb2 hl1
    go_enter Try.func4, Try.ntmps4
    go_wp2_with fail
    refine (antiphonlaw2_awake.calls true _ rfl).mono ?_
    rintro e wa ⟨rfl, hB⟩
    have hS := (show Below w.heap.size w wa from below_step (by repeat (first | with_reducible exact Below.refl _ _ | with_reducible apply below_drew1 | with_reducible apply pw_below_drewN | with_reducible apply below_alloc)) hB)
    replace HR := Aside0.mk (Kd.C_below HR.out hS)
    replace HB := Aside0.mk (below_step HB.out hS)
    clear hS hB
    go_wp2_with fail
    go_ret
    exact ⟨rfl, HB.out⟩
  have d2 : decide (l1.length < l0.length) = false := decide_eq_false (by omega)
  by_cases hl2 : l0.length ≤ l2.length
  case neg =>
    have d3 : decide (l2.length < l0.length) = true := decide_eq_true (by omega)
    clear hr0 hc0 hb hl hr1 hc1 hb1 hr2 hc2 hb2 hl1 hl2
    go_enter Try.func4, Try.ntmps4
    go_wp2_with fail
    refine (antiphonlaw2_awake.calls true _ rfl).mono ?_
    rintro e wa ⟨rfl, hB⟩
    have hS := (show Below w.heap.size w wa from below_step (by repeat (first | with_reducible exact Below.refl _ _ | with_reducible apply below_drew1 | with_reducible apply pw_below_drewN | with_reducible apply below_alloc)) hB)
    replace HR := Aside0.mk (Kd.C_below HR.out hS)
    replace HB := Aside0.mk (below_step HB.out hS)
    clear hS hB
    go_wp2_with fail
    go_ret
    exact ⟨rfl, HB.out⟩
  have d3 : decide (l2.length < l0.length) = false := decide_eq_false (by omega)
  have HR0 := Aside0.mk hr0
  have HR1 := Aside0.mk hr1
  have HR2 := Aside0.mk hr2
  have HBY1 := Aside0.mk hb1
  have HBY2 := Aside0.mk hb2
  have HCP := Aside0.mk (copy_any (a := l0) (by omega))
  clear hr0 hc0 hb hr1 hb1 hr2 hb2
  have HC1 := Aside0.mk hc1
  have HC2 := Aside0.mk hc2
  clear hc1 hc2
  go_enter Try.func4, Try.ntmps4
  go_wp2_with fail
  refine (antiphonlaw2_awake.calls true _ rfl).mono ?_
  rintro e wa ⟨rfl, hB⟩
  have hS := (show Below w.heap.size w wa from below_step (by repeat (first | with_reducible exact Below.refl _ _ | with_reducible apply below_drew1 | with_reducible apply pw_below_drewN | with_reducible apply below_alloc)) hB)
  replace HR := Aside0.mk (Kd.C_below HR.out hS)
  replace HB := Aside0.mk (below_step HB.out hS)
  clear hS hB
  go_wp2_with fail
  refine (crc_Make.calls _).mono ?_
  rintro e w1 ⟨rfl, hB⟩
  have hS := (show Below wa.heap.size wa w1 from below_step (by repeat (first | with_reducible exact Below.refl _ _ | with_reducible apply below_drew1 | with_reducible apply pw_below_drewN | with_reducible apply below_alloc)) hB)
  replace HR := Aside0.mk (Kd.C_below HR.out hS)
  replace HB := Aside0.mk (below_step HB.out hS)
  clear hS hB
  go_wp2_with (first
    | (refine wpList_store_tab rfl (.tmp 7) (.tmp 30) rfl w1.heap.size rfl true rfl Try.zeroCells27 (blk_new w1 _) zsz27 ?_; intro w2 hI hG; have hS := (show Below w1.heap.size w1 w2 from (below_alloc (Below.refl _ _) _).grown hG (below_alloc (Below.refl _ _) _).size (fun k hk => by cases hk; exact Nat.le_refl _)); replace HR := Aside0.mk (Kd.C_below HR.out hS); have HG := Aside0.mk (HB.out.size); replace HB := Aside0.mk (below_step HB.out hS); generalize w1.heap.size = g at hI HG ⊢; have HI := Aside0.mk hI; clear hI hG hS))
  refine (antiphonref1_Copy.calls _ _ _ _ _ _ (Kd.C_below HR.out (by repeat (first | with_reducible exact Below.refl _ _ | with_reducible apply below_drew1 | with_reducible apply pw_below_drewN | with_reducible apply below_alloc))) HC.out HCP.out).mono ?_
  rintro e w3 ⟨v3, rfl, hR, hB⟩
  have HX := Aside0.mk (Kd.R_lower hR HB.out.size)
  have hS := (show Below w2.heap.size w2 w3 from below_step (by repeat (first | with_reducible exact Below.refl _ _ | with_reducible apply below_drew1 | with_reducible apply pw_below_drewN | with_reducible apply below_alloc)) hB)
  replace HR := Aside0.mk (Kd.C_below HR.out hS)
  replace HI := Aside0.mk (HI.out.below hS)
  replace HB := Aside0.mk (below_step HB.out hS)
  obtain ⟨Ax, cx, rfl, hcx, hCx⟩ := Kd.R_reads hR
  have Hcx := Aside0.mk hcx
  clear hR hCx hcx HR
  clear hS hB
  go_wp2_with fail
  go_loopw [9] (fun v9 wr => ∃ (k : Nat) (X : List Int), k ≤ l0.length ∧ v9 = .int .i64 k ∧ Aside0 (X.length = l0.length ∧ byteRow X ∧ nats X = x3 ((nats l0).take k) ((nats l1).take k) ((nats l2).take k) ++ (nats l0).drop k) ∧ Aside0 (Kd.R (Kd.int .u8) 5 wr w.heap.size (fun _ => True) (.slice Ax l0.length cx) X) ∧ Aside0 (Below w.heap.size w wr) ∧ Aside0 (IsTab true wr g)) (fun v9 _ => l0.length - (intOf v9).toNat)
  case atStart => exact ⟨0, l0, Nat.zero_le _, rfl, ⟨rfl, HBY.out, rfl⟩, HX, HB, HI⟩
  case round =>
    clear HX HB HI
    obtain ⟨k, X, hk, rfl, HXX, HX, HB, HI⟩ := hrel
    by_cases hlt : k < l0.length
    · obtain ⟨gx, rfl⟩ := R_some HX.out (by rw [HXX.out.1]; omega)
      have hca := getD_byte HBY.out k
      have hcb := getD_byte HBY1.out k
      have hcc := getD_byte HBY2.out k
      obtain ⟨ad0, e0, hx0⟩ := Kd.at_int (Kd.C_below HR0.out HB.out) (k : Int) (by omega) (by omega)
      cases e0
      obtain ⟨ad1, e1, hx1⟩ := Kd.at_int (Kd.C_below HR1.out HB.out) (k : Int) (by omega) (by omega)
      cases e1
      obtain ⟨ad2, e2, hx2⟩ := Kd.at_int (Kd.C_below HR2.out HB.out) (k : Int) (by omega) (by omega)
      cases e2
      rw [rd_nat, Int.toNat_natCast] at hx0 hx1 hx2
      have hxc := Kd.R_celln (0 : Int) HX.out (k : Int) (by omega) (by omega)
      rw [Int.toNat_natCast] at hxc
      obtain ⟨hxc, hxf⟩ := hxc
      have hstep := x3_set (a := nats l0) (b := nats l1) (c := nats l2) (k := k) (by rw [nats_len]; omega) (by rw [nats_len]; omega) (by rw [nats_len]; omega) rfl
      rw [nats_get hlt, nats_get (show k < l1.length by omega), nats_get (show k < l2.length by omega)] at hstep
      have HST := Aside0.mk hstep
      generalize l0.getD k 0 = ca at hca hx0 HST
      generalize l1.getD k 0 = cb at hcb hx1 HST
      generalize l2.getD k 0 = cc at hcc hx2 HST
      obtain ⟨eab, lab⟩ := x8 hca hcb
      obtain ⟨eabc, labc⟩ := x8 (a := ((ca.toNat ^^^ cb.toNat : Nat) : Int)) (b := cc) ⟨by omega, by omega⟩ hcc
      rw [Int.toNat_natCast] at eabc labc
      have hl1k : (k : Int) < (l1.length : Int) := by omega
      have hl2k : (k : Int) < (l2.length : Int) := by omega
      have HP := Aside0.mk (Kd.R_putg HX.out (k : Int) ((ca.toNat ^^^ cb.toNat ^^^ cc.toNat : Nat) : Int))
      rw [Int.toNat_natCast] at HP
      generalize ca.toNat ^^^ cb.toNat ^^^ cc.toNat = z at eabc labc HST HP
      clear hstep
      go_wp2_with fail
      refine start_ (n := 18) (S := fun w' => w'.cell? (ad0.add k) = some (.int .u8 ca) ∧ w'.cell? (ad1.add k) = some (.int .u8 cb) ∧ w'.cell? (ad2.add k) = some (.int .u8 cc)) (ds := [17]) #[false, false, false, false, false, false, false, false, false, false, false, false, false, false, false, false, false, false] (by kernel_rfl) rfl rfl ⟨hx0, hx1, hx2⟩ (fun hHeld => ?_)
      refine pure_ (i := 0) (N := some 39) (v := ?_) (a' := ?_) #[true, false, false, false, false, false, false, false, false, false, false, false, false, false, false, false, false, false] rfl rfl (by kernel_rfl) (fun _ _ _ h => h) (Or.inl ⟨by rfl, ?_⟩) ?_ ?_
      rotate_left
      · intro w'
        go_simp
        with_reducible rfl
      rotate_left
      · simp only [Act.put, List.setIfInBounds_toArray, List.set_cons_zero, List.set_cons_succ, i64_w, i32_w]
        rfl
      refine pure_ (i := 1) (N := some 40) (v := ?_) (a' := ?_) #[true, true, false, false, false, false, false, false, false, false, false, false, false, false, false, false, false, false] rfl rfl (by kernel_rfl) (fun _ _ _ h => h) (Or.inl ⟨by rfl, ?_⟩) ?_ ?_
      rotate_left
      · intro w'
        go_simp
        with_reducible rfl
      rotate_left
      · simp only [Act.put, List.setIfInBounds_toArray, List.set_cons_zero, List.set_cons_succ, i64_w, i32_w]
        rfl
      refine pure_ (i := 2) (N := some 41) (v := ?_) (a' := ?_) #[true, true, true, false, false, false, false, false, false, false, false, false, false, false, false, false, false, false] rfl rfl (by kernel_rfl) (fun _ _ _ h => h) (Or.inl ⟨by rfl, ?_⟩) ?_ ?_
      rotate_left
      · intro w'
        go_simp
        with_reducible rfl
      rotate_left
      · simp only [Act.put, List.setIfInBounds_toArray, List.set_cons_zero, List.set_cons_succ, i64_w, i32_w]
        rfl
      refine pure_ (i := 3) (N := some 42) (v := ?_) (a' := ?_) #[true, true, true, true, false, false, false, false, false, false, false, false, false, false, false, false, false, false] rfl rfl (by kernel_rfl) (fun _ _ _ h => h) (Or.inl ⟨by rfl, ?_⟩) ?_ ?_
      rotate_left
      · intro w'
        go_simp
        with_reducible rfl
      rotate_left
      · simp only [Act.put, List.setIfInBounds_toArray, List.set_cons_zero, List.set_cons_succ, i64_w, i32_w]
        rfl
      refine pure_ (i := 4) (N := some 43) (v := ?_) (a' := ?_) #[true, true, true, true, true, false, false, false, false, false, false, false, false, false, false, false, false, false] rfl rfl (by kernel_rfl) (fun _ _ _ h => h) (Or.inl ⟨by rfl, ?_⟩) ?_ ?_
      rotate_left
      · intro w'
        go_simp
        with_reducible rfl
      rotate_left
      · simp only [Act.put, List.setIfInBounds_toArray, List.set_cons_zero, List.set_cons_succ, i64_w, i32_w]
        rfl
      refine pure_ (i := 6) (N := some 45) (v := ?_) (a' := ?_) #[true, true, true, true, true, false, true, false, false, false, false, false, false, false, false, false, false, false] rfl rfl (by kernel_rfl) (fun _ _ _ h => h) (Or.inl ⟨by rfl, ?_⟩) ?_ ?_
      rotate_left
      · intro w'
        go_simp
        with_reducible rfl
      rotate_left
      · simp only [Act.put, List.setIfInBounds_toArray, List.set_cons_zero, List.set_cons_succ, i64_w, i32_w]
        rfl
      refine pure_ (i := 7) (N := some 46) (v := ?_) (a' := ?_) #[true, true, true, true, true, false, true, true, false, false, false, false, false, false, false, false, false, false] rfl rfl (by kernel_rfl) (fun _ _ _ h => h) (Or.inl ⟨by rfl, ?_⟩) ?_ ?_
      rotate_left
      · intro w'
        go_simp
        with_reducible rfl
      rotate_left
      · simp only [Act.put, List.setIfInBounds_toArray, List.set_cons_zero, List.set_cons_succ, i64_w, i32_w]
        rfl
      refine pure_ (i := 8) (N := some 47) (v := ?_) (a' := ?_) #[true, true, true, true, true, false, true, true, true, false, false, false, false, false, false, false, false, false] rfl rfl (by kernel_rfl) (fun _ _ _ h => h) (Or.inl ⟨by rfl, ?_⟩) ?_ ?_
      rotate_left
      · intro w'
        go_simp
        with_reducible rfl
      rotate_left
      · simp only [Act.put, List.setIfInBounds_toArray, List.set_cons_zero, List.set_cons_succ, i64_w, i32_w]
        rfl
      refine pure_ (i := 11) (N := some 50) (v := ?_) (a' := ?_) #[true, true, true, true, true, false, true, true, true, false, false, true, false, false, false, false, false, false] rfl rfl (by kernel_rfl) (fun _ _ _ h => h) (Or.inl ⟨by rfl, ?_⟩) ?_ ?_
      rotate_left
      · intro w'
        go_simp
        with_reducible rfl
      rotate_left
      · simp only [Act.put, List.setIfInBounds_toArray, List.set_cons_zero, List.set_cons_succ, i64_w, i32_w]
        rfl
      refine pure_ (i := 12) (N := some 51) (v := ?_) (a' := ?_) #[true, true, true, true, true, false, true, true, true, false, false, true, true, false, false, false, false, false] rfl rfl (by kernel_rfl) (fun _ _ _ h => h) (Or.inl ⟨by rfl, ?_⟩) ?_ ?_
      rotate_left
      · intro w'
        go_simp
        with_reducible rfl
      rotate_left
      · simp only [Act.put, List.setIfInBounds_toArray, List.set_cons_zero, List.set_cons_succ, i64_w, i32_w]
        rfl
      refine pure_ (i := 13) (N := some 52) (v := ?_) (a' := ?_) #[true, true, true, true, true, false, true, true, true, false, false, true, true, true, false, false, false, false] rfl rfl (by kernel_rfl) (fun _ _ _ h => h) (Or.inl ⟨by rfl, ?_⟩) ?_ ?_
      rotate_left
      · intro w'
        go_simp
        with_reducible rfl
      rotate_left
      · simp only [Act.put, List.setIfInBounds_toArray, List.set_cons_zero, List.set_cons_succ, i64_w, i32_w]
        rfl
      refine take_ (i := 5) (N := some 44) (v := ?_) (a' := ?_) #[true, true, true, true, true, true, true, true, true, false, false, true, true, true, false, false, false, false] rfl rfl (by kernel_rfl) (fun _ _ _ h => h) (Or.inl ⟨by rfl, ?_⟩) hHeld ?_ ?_
      rotate_left
      · rintro w' ⟨s0, s1, s2⟩
        go_simp
        with_reducible rfl
      rotate_left
      · simp only [Act.put, List.setIfInBounds_toArray, List.set_cons_zero, List.set_cons_succ, i64_w, i32_w]
        rfl
      refine take_ (i := 9) (N := some 48) (v := ?_) (a' := ?_) #[true, true, true, true, true, true, true, true, true, true, false, true, true, true, false, false, false, false] rfl rfl (by kernel_rfl) (fun _ _ _ h => h) (Or.inl ⟨by rfl, ?_⟩) hHeld ?_ ?_
      rotate_left
      · rintro w' ⟨s0, s1, s2⟩
        go_simp
        with_reducible rfl
      rotate_left
      · simp only [Act.put, List.setIfInBounds_toArray, List.set_cons_zero, List.set_cons_succ, i64_w, i32_w]
        rfl
      refine pure_ (i := 10) (N := some 49) (v := ?_) (a' := ?_) #[true, true, true, true, true, true, true, true, true, true, true, true, true, true, false, false, false, false] rfl rfl (by kernel_rfl) (fun _ _ _ h => h) (Or.inl ⟨by rfl, ?_⟩) ?_ ?_
      rotate_left
      · intro w'
        go_simp
        with_reducible rfl
      rotate_left
      · simp only [Act.put, List.setIfInBounds_toArray, List.set_cons_zero, List.set_cons_succ, i64_w, i32_w]
        rfl
      refine take_ (i := 14) (N := some 53) (v := ?_) (a' := ?_) #[true, true, true, true, true, true, true, true, true, true, true, true, true, true, true, false, false, false] rfl rfl (by kernel_rfl) (fun _ _ _ h => h) (Or.inl ⟨by rfl, ?_⟩) hHeld ?_ ?_
      rotate_left
      · rintro w' ⟨s0, s1, s2⟩
        go_simp
        with_reducible rfl
      rotate_left
      · simp only [Act.put, List.setIfInBounds_toArray, List.set_cons_zero, List.set_cons_succ, i64_w, i32_w]
        rfl
      refine pure_ (i := 15) (N := some 54) (v := ?_) (a' := ?_) #[true, true, true, true, true, true, true, true, true, true, true, true, true, true, true, true, false, false] rfl rfl (by kernel_rfl) (fun _ _ _ h => h) (Or.inl ⟨by rfl, ?_⟩) ?_ ?_
      rotate_left
      · intro w'
        go_simp
        with_reducible rfl
      rotate_left
      · simp only [Act.put, List.setIfInBounds_toArray, List.set_cons_zero, List.set_cons_succ, i64_w, i32_w]
        rfl
      refine pure_ (i := 16) (N := some 55) (v := ?_) (a' := ?_) #[true, true, true, true, true, true, true, true, true, true, true, true, true, true, true, true, true, false] rfl rfl (by kernel_rfl) (fun _ _ _ h => h) (Or.inl ⟨by rfl, ?_⟩) ?_ ?_
      rotate_left
      · intro w'
        go_simp
        with_reducible rfl
      rotate_left
      · simp only [Act.put, List.setIfInBounds_toArray, List.set_cons_zero, List.set_cons_succ, i64_w, i32_w]
        rfl
      refine last_ (i := 17) (N := none) #[true, true, true, true, true, true, true, true, true, true, true, true, true, true, true, true, true, true] rfl rfl (by kernel_rfl) (by decide) (fun K hK => ?_)
      refine skip_ (w1 := ?_) (by rfl) rfl ?_ ?_
      rotate_left
      · go_simp
        rfl
      refine hK.out _ _ ?_
      clear hK K
      refine done_ (by kernel_rfl) ?_
      go_wp2_with fail
      refine ⟨⟨k + 1, X.set k (z : Int), by omega, by go_num, ⟨by rw [List.length_set]; exact HXX.out.1, byteRow_set HXX.out.2.1 ⟨by omega, by omega⟩, by rw [nats_set, HXX.out.2.2, Int.toNat_natCast]; exact HST.out⟩, ⟨Kd.R_drew HP.out.1⟩, ⟨below_drew1 (HB.out.grown HP.out.2 HB.out.size (fun q hq => by cases hq; exact Kd.R_base HX.out gx rfl))⟩, ⟨(HI.out.grown HP.out.2 (Kd.R_ne HX.out HI.out (by decide))).drew1⟩⟩, by simp [intOf]; omega⟩
    · obtain rfl : k = l0.length := by omega
      have hCX : Kd.C (Kd.int .u8) wr Ax l0.length X := by
        obtain ⟨A_, c_, he, _, hC_⟩ := Kd.R_reads HX.out
        injection he with e1 e2 e3
        subst e1
        rw [e2]
        exact hC_
      have HRX := Aside0.mk hCX
      have HR := Aside0.mk (Kd.C_below HR0.out HB.out)
      have ht1 : (l1.take l0.length).length = l0.length := by rw [List.length_take]; omega
      have ht2 : (l2.take l0.length).length = l0.length := by rw [List.length_take]; omega
      have hT1 := Kd.C_take (Kd.C_below HR1.out HB.out) hl1
      have hT2 := Kd.C_take (Kd.C_below HR2.out HB.out) hl2
      rw [ht1] at hT1
      rw [ht2] at hT2
      have HT1 := Aside0.mk hT1
      have HT2 := Aside0.mk hT2
      have hbt1 : byteRow (l1.take l0.length) := fun c hc => HBY1.out c (List.mem_of_mem_take hc)
      have hbt2 : byteRow (l2.take l0.length) := fun c hc => HBY2.out c (List.mem_of_mem_take hc)
      have HBT1 := Aside0.mk hbt1
      have HBT2 := Aside0.mk hbt2
      obtain ⟨i0, hi, hz0, hz1, hz2⟩ := info_parts info5
      have q1 := cut_to 22 5 .i64 (P := Try.prog) Try.underlying22 hi A1 l1.length c1 (l0.length : Int) (by omega) (by omega) HC1.out
      have q2 := cut_to 22 5 .i64 (P := Try.prog) Try.underlying22 hi A2 l2.length c2 (l0.length : Int) (by omega) (by omega) HC2.out
      rw [Int.toNat_natCast] at q1 q2
      have hsX : M.sum (nats X) = M.sum (nats l0) ^^^ M.sum (nats (l1.take l0.length)) ^^^ M.sum (nats (l2.take l0.length)) := by
        have h := HXX.out.2.2
        rw [show (nats l0).take l0.length = nats l0 from List.take_of_length_le (by rw [nats_len]; omega), List.drop_eq_nil_of_le (by rw [nats_len]; omega), List.append_nil] at h
        rw [h, sum_x3 (by rw [List.length_take, nats_len, nats_len]; omega) (by rw [List.length_take, nats_len, nats_len]; omega), nats_take, nats_take]
      have HSX := Aside0.mk (crc_Sum.made' Ax cx l0.length X HXX.out.1 _ hsX)
      have HS0 := Aside0.mk (crc_Sum.made' A0 c0 l0.length l0 rfl _ rfl)
      have HS1 := Aside0.mk (crc_Sum.made' A1 c1 l0.length (l1.take l0.length) ht1 _ rfl)
      have HS2 := Aside0.mk (crc_Sum.made' A2 c2 l0.length (l2.take l0.length) ht2 _ rfl)
      have hs0 : M.sum (nats l0) < 4294967296 := M.sum_lt (nats_lt HBY.out)
      have hs1 : M.sum (nats (l1.take l0.length)) < 4294967296 := M.sum_lt (nats_lt hbt1)
      have hs2 : M.sum (nats (l2.take l0.length)) < 4294967296 := M.sum_lt (nats_lt hbt2)
      have HBX := Aside0.mk HXX.out.2.1
      have HL1 := Aside0.mk (show l0.length ≤ c1 from Nat.le_trans hl1 HC1.out)
      have HL2 := Aside0.mk (show l0.length ≤ c2 from Nat.le_trans hl2 HC2.out)
      generalize M.sum (nats l0) = s0 at hs0 HSX HS0
      generalize M.sum (nats (l1.take l0.length)) = s1 at hs1 HSX HS1
      generalize M.sum (nats (l2.take l0.length)) = s2 at hs2 HSX HS2
      have x1 := u32_xor_nat s0 s1 hs0 hs1
      have x2 := u32_xor_nat (s0 ^^^ s1) s2 (Nat.xor_lt_two_pow (n := 32) hs0 hs1) hs2
      clear hCX hT1 hT2 hbt1 hbt2 hsX hi hz0 hz1 hz2 ht1 ht2 HX HXX
      go_wp2_with fail
      refine start_ (n := 20) (S := fun w' => IsTab true w' g) (ds := []) #[false, false, false, false, false, false, false, false, false, false, false, false, false, false, false, false, false, false, false, false] (by kernel_rfl) rfl rfl ((HI.out.below (by repeat (first | with_reducible exact Below.refl _ _ | with_reducible apply below_drew1 | with_reducible apply pw_below_drewN | with_reducible apply below_alloc)))) (fun hHeld => ?_)
      refine pure_ (i := 1) (N := some 59) (v := ?_) (a' := ?_) #[false, true, false, false, false, false, false, false, false, false, false, false, false, false, false, false, false, false, false, false] rfl rfl (by kernel_rfl) (fun _ _ _ h => h) (Or.inl ⟨by rfl, ?_⟩) ?_ ?_
      rotate_left
      · intro w'
        go_simp
        with_reducible rfl
      rotate_left
      · simp only [Act.put, List.setIfInBounds_toArray, List.set_cons_zero, List.set_cons_succ, i64_w, i32_w]
        rfl
      refine pure_ (i := 4) (N := some 62) (v := ?_) (a' := ?_) #[false, true, false, false, true, false, false, false, false, false, false, false, false, false, false, false, false, false, false, false] rfl rfl (by kernel_rfl) (fun _ _ _ h => h) (Or.inl ⟨by rfl, ?_⟩) ?_ ?_
      rotate_left
      · intro w'
        go_simp
        with_reducible rfl
      rotate_left
      · simp only [Act.put, List.setIfInBounds_toArray, List.set_cons_zero, List.set_cons_succ, i64_w, i32_w]
        rfl
      refine pure_ (i := 7) (N := some 65) (v := ?_) (a' := ?_) #[false, true, false, false, true, false, false, true, false, false, false, false, false, false, false, false, false, false, false, false] rfl rfl (by kernel_rfl) (fun _ _ _ h => h) (Or.inl ⟨by rfl, ?_⟩) ?_ ?_
      rotate_left
      · intro w'
        go_simp
        with_reducible rfl
      rotate_left
      · simp only [Act.put, List.setIfInBounds_toArray, List.set_cons_zero, List.set_cons_succ, i64_w, i32_w]
        rfl
      refine pure_ (i := 8) (N := some 66) (v := ?_) (a' := ?_) #[false, true, false, false, true, false, false, true, true, false, false, false, false, false, false, false, false, false, false, false] rfl rfl (by kernel_rfl) (fun _ _ _ h => h) (Or.inl ⟨by rfl, ?_⟩) ?_ ?_
      rotate_left
      · intro w'
        go_simp
        with_reducible rfl
      rotate_left
      · simp only [Act.put, List.setIfInBounds_toArray, List.set_cons_zero, List.set_cons_succ, i64_w, i32_w]
        rfl
      refine pure_ (i := 9) (N := some 67) (v := ?_) (a' := ?_) #[false, true, false, false, true, false, false, true, true, true, false, false, false, false, false, false, false, false, false, false] rfl rfl (by kernel_rfl) (fun _ _ _ h => h) (Or.inl ⟨by rfl, ?_⟩) ?_ ?_
      rotate_left
      · intro w'
        go_simp
        with_reducible rfl
      rotate_left
      · simp only [Act.put, List.setIfInBounds_toArray, List.set_cons_zero, List.set_cons_succ, i64_w, i32_w]
        rfl
      refine pure_ (i := 13) (N := some 71) (v := ?_) (a' := ?_) #[false, true, false, false, true, false, false, true, true, true, false, false, false, true, false, false, false, false, false, false] rfl rfl (by kernel_rfl) (fun _ _ _ h => h) (Or.inl ⟨by rfl, ?_⟩) ?_ ?_
      rotate_left
      · intro w'
        go_simp
        with_reducible rfl
      rotate_left
      · simp only [Act.put, List.setIfInBounds_toArray, List.set_cons_zero, List.set_cons_succ, i64_w, i32_w]
        rfl
      refine pure_ (i := 14) (N := some 72) (v := ?_) (a' := ?_) #[false, true, false, false, true, false, false, true, true, true, false, false, false, true, true, false, false, false, false, false] rfl rfl (by kernel_rfl) (fun _ _ _ h => h) (Or.inl ⟨by rfl, ?_⟩) ?_ ?_
      rotate_left
      · intro w'
        go_simp
        with_reducible rfl
      rotate_left
      · simp only [Act.put, List.setIfInBounds_toArray, List.set_cons_zero, List.set_cons_succ, i64_w, i32_w]
        rfl
      refine pure_ (i := 15) (N := some 73) (v := ?_) (a' := ?_) #[false, true, false, false, true, false, false, true, true, true, false, false, false, true, true, true, false, false, false, false] rfl rfl (by kernel_rfl) (fun _ _ _ h => h) (Or.inl ⟨by rfl, ?_⟩) ?_ ?_
      rotate_left
      · intro w'
        go_simp
        with_reducible rfl
      rotate_left
      · simp only [Act.put, List.setIfInBounds_toArray, List.set_cons_zero, List.set_cons_succ, i64_w, i32_w]
        rfl
      refine take_ (i := 0) (N := some 58) (v := tabV true) #[true, true, false, false, true, false, false, true, true, true, false, false, false, true, true, true, false, false, false, false] rfl rfl (by kernel_rfl) (fun _ _ _ h => h) ?_ hHeld rfl ?_
      · exact yields_tab (by rfl) _ rfl _ rfl true (by intro w' s0; exact s0)
      refine norm_ (a' := ?_) ?_ ?_
      rotate_left
      · show Act.put _ (some 58) _ = _
        simp only [Act.put, List.setIfInBounds_toArray, List.set_cons_zero, List.set_cons_succ, i64_w, i32_w]
        rfl
      refine take_ (i := 3) (N := some 61) (v := tabV true) #[true, true, false, true, true, false, false, true, true, true, false, false, false, true, true, true, false, false, false, false] rfl rfl (by kernel_rfl) (fun _ _ _ h => h) ?_ hHeld rfl ?_
      · exact yields_tab (by rfl) _ rfl _ rfl true (by intro w' s0; exact s0)
      refine norm_ (a' := ?_) ?_ ?_
      rotate_left
      · show Act.put _ (some 61) _ = _
        simp only [Act.put, List.setIfInBounds_toArray, List.set_cons_zero, List.set_cons_succ, i64_w, i32_w]
        rfl
      refine take_ (i := 6) (N := some 64) (v := tabV true) #[true, true, false, true, true, false, true, true, true, true, false, false, false, true, true, true, false, false, false, false] rfl rfl (by kernel_rfl) (fun _ _ _ h => h) ?_ hHeld rfl ?_
      · exact yields_tab (by rfl) _ rfl _ rfl true (by intro w' s0; exact s0)
      refine norm_ (a' := ?_) ?_ ?_
      rotate_left
      · show Act.put _ (some 64) _ = _
        simp only [Act.put, List.setIfInBounds_toArray, List.set_cons_zero, List.set_cons_succ, i64_w, i32_w]
        rfl
      refine take_ (i := 12) (N := some 70) (v := tabV true) #[true, true, false, true, true, false, true, true, true, true, false, false, true, true, true, true, false, false, false, false] rfl rfl (by kernel_rfl) (fun _ _ _ h => h) ?_ hHeld rfl ?_
      · exact yields_tab (by rfl) _ rfl _ rfl true (by intro w' s0; exact s0)
      refine norm_ (a' := ?_) ?_ ?_
      rotate_left
      · show Act.put _ (some 70) _ = _
        simp only [Act.put, List.setIfInBounds_toArray, List.set_cons_zero, List.set_cons_succ, i64_w, i32_w]
        rfl
      refine one_ (i := 2) (N := some 60) #[true, true, true, true, true, false, true, true, true, true, false, false, true, true, true, true, false, false, false, false] rfl rfl (by kernel_rfl) (by decide) (fun K hK => ?_)
      refine goes_ Try.func21 (by kernel_rfl) rfl #[tabV true, .slice Ax l0.length cx] (by rfl) rfl rfl (by simp only [List.map_toArray, List.map_cons, List.map_nil]; rfl) ?_
      refine (HSX.out _ (Kd.C_below HRX.out (by repeat (first | with_reducible exact Below.refl _ _ | with_reducible apply below_drew1 | with_reducible apply pw_below_drewN | with_reducible apply below_alloc))) Hcx.out HBX.out).mono ?_
      rintro e w4 ⟨rfl, hB⟩
      refine ⟨_, rfl, ?_⟩
      have hS := (show Below wr.heap.size wr w4 from below_step (by repeat (first | with_reducible exact Below.refl _ _ | with_reducible apply below_drew1 | with_reducible apply pw_below_drewN | with_reducible apply below_alloc)) hB)
      replace HRX := Aside0.mk (Kd.C_below HRX.out hS)
      replace HR := Aside0.mk (Kd.C_below HR.out hS)
      replace HT1 := Aside0.mk (Kd.C_below HT1.out hS)
      replace HT2 := Aside0.mk (Kd.C_below HT2.out hS)
      replace HI := Aside0.mk (HI.out.below hS)
      replace HB := Aside0.mk (below_step HB.out hS)
      clear hS hB
      refine hK.out _ _ ((HI.out.below (by repeat (first | with_reducible exact Below.refl _ _ | with_reducible apply below_drew1 | with_reducible apply pw_below_drewN | with_reducible apply below_alloc)))) (fun hHeld => ?_)
      clear hK K
      refine norm_ (a' := ?_) ?_ ?_
      rotate_left
      · show Act.put _ (some 60) _ = _
        simp only [Act.put, List.setIfInBounds_toArray, List.set_cons_zero, List.set_cons_succ, i64_w, i32_w]
        rfl
      refine one_ (i := 5) (N := some 63) #[true, true, true, true, true, true, true, true, true, true, false, false, true, true, true, true, false, false, false, false] rfl rfl (by kernel_rfl) (by decide) (fun K hK => ?_)
      refine goes_ Try.func21 (by kernel_rfl) rfl #[tabV true, .slice A0 l0.length c0] (by rfl) rfl rfl (by simp only [List.map_toArray, List.map_cons, List.map_nil]; rfl) ?_
      refine (HS0.out _ (Kd.C_below HR.out (by repeat (first | with_reducible exact Below.refl _ _ | with_reducible apply below_drew1 | with_reducible apply pw_below_drewN | with_reducible apply below_alloc))) HC.out HBY.out).mono ?_
      rintro e w5 ⟨rfl, hB⟩
      refine ⟨_, rfl, ?_⟩
      have hS := (show Below w4.heap.size w4 w5 from below_step (by repeat (first | with_reducible exact Below.refl _ _ | with_reducible apply below_drew1 | with_reducible apply pw_below_drewN | with_reducible apply below_alloc)) hB)
      replace HRX := Aside0.mk (Kd.C_below HRX.out hS)
      replace HR := Aside0.mk (Kd.C_below HR.out hS)
      replace HT1 := Aside0.mk (Kd.C_below HT1.out hS)
      replace HT2 := Aside0.mk (Kd.C_below HT2.out hS)
      replace HI := Aside0.mk (HI.out.below hS)
      replace HB := Aside0.mk (below_step HB.out hS)
      clear hS hB
      refine hK.out _ _ ((HI.out.below (by repeat (first | with_reducible exact Below.refl _ _ | with_reducible apply below_drew1 | with_reducible apply pw_below_drewN | with_reducible apply below_alloc)))) (fun hHeld => ?_)
      clear hK K
      refine norm_ (a' := ?_) ?_ ?_
      rotate_left
      · show Act.put _ (some 63) _ = _
        simp only [Act.put, List.setIfInBounds_toArray, List.set_cons_zero, List.set_cons_succ, i64_w, i32_w]
        rfl
      refine one_ (i := 10) (N := some 68) #[true, true, true, true, true, true, true, true, true, true, true, false, true, true, true, true, false, false, false, false] rfl rfl (by kernel_rfl) (by decide) (fun K hK => ?_)
      refine goes_ Try.func21 (by kernel_rfl) rfl #[tabV true, .slice A1 l0.length c1] (by rfl) rfl rfl (by simp only [List.map_toArray, List.map_cons, List.map_nil]; rfl) ?_
      refine (HS1.out _ (Kd.C_below HT1.out (by repeat (first | with_reducible exact Below.refl _ _ | with_reducible apply below_drew1 | with_reducible apply pw_below_drewN | with_reducible apply below_alloc))) HL1.out HBT1.out).mono ?_
      rintro e w6 ⟨rfl, hB⟩
      refine ⟨_, rfl, ?_⟩
      have hS := (show Below w5.heap.size w5 w6 from below_step (by repeat (first | with_reducible exact Below.refl _ _ | with_reducible apply below_drew1 | with_reducible apply pw_below_drewN | with_reducible apply below_alloc)) hB)
      replace HRX := Aside0.mk (Kd.C_below HRX.out hS)
      replace HR := Aside0.mk (Kd.C_below HR.out hS)
      replace HT1 := Aside0.mk (Kd.C_below HT1.out hS)
      replace HT2 := Aside0.mk (Kd.C_below HT2.out hS)
      replace HI := Aside0.mk (HI.out.below hS)
      replace HB := Aside0.mk (below_step HB.out hS)
      clear hS hB
      refine hK.out _ _ ((HI.out.below (by repeat (first | with_reducible exact Below.refl _ _ | with_reducible apply below_drew1 | with_reducible apply pw_below_drewN | with_reducible apply below_alloc)))) (fun hHeld => ?_)
      clear hK K
      refine norm_ (a' := ?_) ?_ ?_
      rotate_left
      · show Act.put _ (some 68) _ = _
        simp only [Act.put, List.setIfInBounds_toArray, List.set_cons_zero, List.set_cons_succ, i64_w, i32_w]
        rfl
      refine pure_ (i := 11) (N := some 69) (v := ?_) (a' := ?_) #[true, true, true, true, true, true, true, true, true, true, true, true, true, true, true, true, false, false, false, false] rfl rfl (by kernel_rfl) (fun _ _ _ h => h) (Or.inl ⟨by rfl, ?_⟩) ?_ ?_
      rotate_left
      · intro w'
        go_simp
        with_reducible rfl
      rotate_left
      · simp only [Act.put, List.setIfInBounds_toArray, List.set_cons_zero, List.set_cons_succ, i64_w, i32_w]
        rfl
      refine one_ (i := 16) (N := some 74) #[true, true, true, true, true, true, true, true, true, true, true, true, true, true, true, true, true, false, false, false] rfl rfl (by kernel_rfl) (by decide) (fun K hK => ?_)
      refine goes_ Try.func21 (by kernel_rfl) rfl #[tabV true, .slice A2 l0.length c2] (by rfl) rfl rfl (by simp only [List.map_toArray, List.map_cons, List.map_nil]; rfl) ?_
      refine (HS2.out _ (Kd.C_below HT2.out (by repeat (first | with_reducible exact Below.refl _ _ | with_reducible apply below_drew1 | with_reducible apply pw_below_drewN | with_reducible apply below_alloc))) HL2.out HBT2.out).mono ?_
      rintro e w7 ⟨rfl, hB⟩
      refine ⟨_, rfl, ?_⟩
      have hS := (show Below w6.heap.size w6 w7 from below_step (by repeat (first | with_reducible exact Below.refl _ _ | with_reducible apply below_drew1 | with_reducible apply pw_below_drewN | with_reducible apply below_alloc)) hB)
      replace HRX := Aside0.mk (Kd.C_below HRX.out hS)
      replace HR := Aside0.mk (Kd.C_below HR.out hS)
      replace HT1 := Aside0.mk (Kd.C_below HT1.out hS)
      replace HT2 := Aside0.mk (Kd.C_below HT2.out hS)
      replace HI := Aside0.mk (HI.out.below hS)
      replace HB := Aside0.mk (below_step HB.out hS)
      clear hS hB
      refine hK.out _ _ ((HI.out.below (by repeat (first | with_reducible exact Below.refl _ _ | with_reducible apply below_drew1 | with_reducible apply pw_below_drewN | with_reducible apply below_alloc)))) (fun hHeld => ?_)
      clear hK K
      refine norm_ (a' := ?_) ?_ ?_
      rotate_left
      · show Act.put _ (some 74) _ = _
        simp only [Act.put, List.setIfInBounds_toArray, List.set_cons_zero, List.set_cons_succ, i64_w, i32_w]
        rfl
      refine pure_ (i := 17) (N := some 75) (v := ?_) (a' := ?_) #[true, true, true, true, true, true, true, true, true, true, true, true, true, true, true, true, true, true, false, false] rfl rfl (by kernel_rfl) (fun _ _ _ h => h) (Or.inl ⟨by rfl, ?_⟩) ?_ ?_
      rotate_left
      · intro w'
        go_simp
        with_reducible rfl
      rotate_left
      · simp only [Act.put, List.setIfInBounds_toArray, List.set_cons_zero, List.set_cons_succ, i64_w, i32_w]
        rfl
      refine pure_ (i := 18) (N := some 76) (v := ?_) (a' := ?_) #[true, true, true, true, true, true, true, true, true, true, true, true, true, true, true, true, true, true, true, false] rfl rfl (by kernel_rfl) (fun _ _ _ h => h) (Or.inl ⟨by rfl, ?_⟩) ?_ ?_
      rotate_left
      · intro w'
        go_simp
        with_reducible rfl
      rotate_left
      · simp only [Act.put, List.setIfInBounds_toArray, List.set_cons_zero, List.set_cons_succ, i64_w, i32_w]
        rfl
      refine pure_ (i := 19) (N := some 6) (v := ?_) (a' := ?_) #[true, true, true, true, true, true, true, true, true, true, true, true, true, true, true, true, true, true, true, true] rfl rfl (by kernel_rfl) (fun _ _ _ h => h) (Or.inl ⟨by rfl, ?_⟩) ?_ ?_
      rotate_left
      · intro w'
        go_simp
        with_reducible rfl
      rotate_left
      · simp only [Act.put, List.setIfInBounds_toArray, List.set_cons_zero, List.set_cons_succ, i64_w, i32_w]
        rfl
      refine done_ (by kernel_rfl) ?_
      go_wp2_with fail
      go_ret
      exact ⟨rfl, HB.out⟩
end Go.Proofs.Ytpalloofjljhkaa.P
