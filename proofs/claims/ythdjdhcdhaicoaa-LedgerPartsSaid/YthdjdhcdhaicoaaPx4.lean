-- Written by this session: the walk of LedgerParts.
import Derived.Test.YthdjdhcdhaicoaaLedT
import Derived.Test.YthdjdhcdhaicoaaPx9
import Derived.Test.YthdjdhcdhaicoaaLedS
import Derived.Deep.QuietTactic
import Derived.BigQuiet
namespace Go.Proofs.Ythdjdhcdhaicoaa.P
open Go.RowKit Go.Proofs.YthdjdhcdhaicoaaW.PrintWords Go.Proofs.YthdjdhcdhaicoaaW.PrintLast Go.Proofs.YthdjdhcdhaicoaaW.PrintMore
attribute [local go_sem] max2_int min2_int max_two min_two max_three min_three max_four min_four   -- for this text's walks alone
set_option linter.unusedVariables false
set_option linter.unusedSimpArgs false
/-- Any rows: true, where their elements are bytes. -/
def antiphonlaw26_LedgerParts.f (l0 l1 : List (List Int)) (a2_0 a2_1 a2_2 : Int) : Option Bool := if (∀ r ∈ l0, ∀ x ∈ r, 0 ≤ x ∧ x < 256) ∧ (∀ r ∈ l1, ∀ x ∈ r, 0 ≤ x ∧ x < 256) ∧ (0 ≤ a2_0 ∧ a2_0 ≤ 255) ∧ (0 ≤ a2_1 ∧ a2_1 ≤ 255) ∧ (0 ≤ a2_2 ∧ a2_2 ≤ 255) then some true else none
theorem parts_open {l0 l1 : List (List Int)} {a b c : Int} {r : Bool} (h : antiphonlaw26_LedgerParts.f l0 l1 a b c = some r) : r = true ∧ (∀ r ∈ l0, Lib.Bytes r) ∧ (∀ r ∈ l1, Lib.Bytes r) ∧ (0 ≤ a ∧ a ≤ 255) ∧ (0 ≤ b ∧ b ≤ 255) ∧ (0 ≤ c ∧ c ≤ 255) := by
  unfold antiphonlaw26_LedgerParts.f at h
  split at h
  · exact ⟨(Option.some.inj h).symm, by assumption⟩
  · cases h
theorem bool_t {b : Bool} (h : ¬ b = false) : b = true := by cases b <;> simp_all
theorem C3_27 {W : World} {b : Nat} {A1 A2 A3 : Option Addr} {c1 c2 c3 : Nat} {l1 l2 l3 : List (List Int)} (hb : W.heap[b]? = some (.cells #[.int .i64 0, .slice A1 l1.length c1, .int .i64 0, .slice A2 l2.length c2, .int .i64 0, .slice A3 l3.length c3] 27 (0, 0)))
    (h1 : l1.length ≤ c1) (h2 : l2.length ≤ c2) (h3 : l3.length ≤ c3) (g1 : Kd.C (Kd.slice 5 (Kd.int .u8)) W A1 l1.length l1) (g2 : Kd.C (Kd.slice 5 (Kd.int .u8)) W A2 l2.length l2) (g3 : Kd.C (Kd.slice 5 (Kd.int .u8)) W A3 l3.length l3) :
    Kd.C k27 W (some ⟨b, 0, none⟩) 3 [⟨0, l1⟩, ⟨0, l2⟩, ⟨0, l3⟩] := by
  have fin : ∀ (j : Nat) (x : S27) (A : Option Addr) (c : Nat), x.f0 = 0 → x.f1.length ≤ c → Kd.C (Kd.slice 5 (Kd.int .u8)) W A x.f1.length x.f1 → W.cell? ⟨b, j * 2, none⟩ = some (.int .i64 0) → W.cell? ⟨b, j * 2 + 1, none⟩ = some (.slice A x.f1.length c) →
      ∃ cs, cs.length = k27.sz ∧ k27.K W x cs ∧ ∀ q u, cs[q]? = some u → W.cell? ((⟨b, 0, none⟩ : Addr).add (j * k27.sz + q)) = some u := by
    intro j x A c hx hl hC e0 e1
    refine ⟨[.int .i64 x.f0, .slice A x.f1.length c], rfl, k27_mk W x hl hC, fun q u hq => ?_⟩
    rw [show k27.sz = 2 from rfl, add_at, Nat.zero_add]
    rcases q with _ | _ | q
    · have : u = .int .i64 x.f0 := by simpa using hq.symm
      rw [this, hx]; exact e0
    · have : u = .slice A x.f1.length c := by simpa using hq.symm
      rw [this]; exact e1
    · simp at hq
  refine ⟨rfl, by decide, fun _ => ⟨⟨b, 0, none⟩, rfl, fun j p hj => ?_⟩⟩
  rcases j with _ | _ | _ | j
  · obtain rfl : (⟨0, l1⟩ : S27) = p := by simpa using hj
    exact fin 0 _ A1 c1 rfl h1 g1 ((blk_cell hb 0).trans rfl) ((blk_cell hb 1).trans rfl)
  · obtain rfl : (⟨0, l2⟩ : S27) = p := by simpa using hj
    exact fin 1 _ A2 c2 rfl h2 g2 ((blk_cell hb 2).trans rfl) ((blk_cell hb 3).trans rfl)
  · obtain rfl : (⟨0, l3⟩ : S27) = p := by simpa using hj
    exact fin 2 _ A3 c3 rfl h3 g3 ((blk_cell hb 4).trans rfl) ((blk_cell hb 5).trans rfl)
  · simp at hj
theorem runs_called (A : Option Addr) (c n : Nat) (S : List S27) (hn : S.length = n) (hS : n ≤ 1000) (hc : n ≤ c) (W : World) (h : Kd.C k27 W A n S) :
    Calls Try.prog 13 #[.slice A n c] W fun e w' => ∃ A' c', e = .returned (.slice A' n c') ∧ n ≤ c' ∧ Kd.C k47 w' A' n (S.map Lib.to47) ∧ Below W.heap.size W w' := by
  subst hn
  refine (antiphonlaw26_runs.calls 3000 (fun k => k < W.heap.size) A c S _ W (Kd.V_mk hc (Kd.C_F k27_heap h)) (Lib.runs_ok S hS 3000 (by omega))).mono ?_
  rintro e w' ⟨v, rfl, hN, hB⟩
  obtain ⟨A', c', rfl, hl, hC⟩ := Kd.N_reads hN
  rw [List.length_map] at hl hC
  rw [List.length_map]
  exact ⟨A', c', rfl, hl, hC, hB⟩
theorem map_47 (S : List S27) : (S.map Lib.to47).map S47.f1 = S.map S27.f1 := by rw [List.map_map]; rfl
theorem within_called (A B : Option Addr) (c d n m : Nat) (S T : List S27) (hn : S.length = n) (hm : T.length = m) (h70 : n ≤ 70) (h71 : m ≤ 70) (hc : n ≤ c) (hd : m ≤ d) (hS : Lib.OkR (S.map S27.f1)) (hT : Lib.OkR (T.map S27.f1)) (W : World) (h1 : Kd.C k47 W A n (S.map Lib.to47)) (h2 : Kd.C k47 W B m (T.map Lib.to47)) :
    Calls Try.prog 12 #[.slice A n c, .slice B m d] W fun e w' => e = .returned (.bool (Lib.withinL (S.map S27.f1) (T.map S27.f1))) ∧ Below W.heap.size W w' := by
  have e1 : (S.map Lib.to47).length = n := by rw [List.length_map]; exact hn
  have e2 : (T.map Lib.to47).length = m := by rw [List.length_map]; exact hm
  have hf := Lib.within_ok (S.map Lib.to47) (T.map Lib.to47) (by rw [map_47]; exact hS) (by rw [map_47]; exact hT) (by omega) (by omega) 20000 (by omega)
  rw [map_47, map_47] at hf
  have := ledger_Within.calls 20000 A c (S.map Lib.to47) B d (T.map Lib.to47) _ W (by rw [e1]; exact h1) (by omega) (by rw [e2]; exact h2) (by omega) hf
  rw [e1, e2] at this
  exact this
theorem rwithin_called (A B : Option Addr) (c d n m : Nat) (S T : List S27) (hn : S.length = n) (hm : T.length = m) (h70 : n ≤ 70) (h71 : m ≤ 70) (hc : n ≤ c) (hd : m ≤ d) (hS : Lib.OkR (S.map S27.f1)) (hT : Lib.OkR (T.map S27.f1)) (W : World) (h1 : Kd.C k27 W A n S) (h2 : Kd.C k27 W B m T) :
    Calls Try.prog 14 #[.slice A n c, .slice B m d] W fun e w' => e = .returned (.bool (Lib.withinL (S.map S27.f1) (T.map S27.f1))) ∧ Drawn0 W w' := by
  subst hn
  subst hm
  exact antiphonref24_Within.calls 20000 A c S B d T _ W h1 hc h2 hd (Lib.rwithin_ok S T hS hT h70 h71 20000 (by omega))
theorem rem_in (a : Int) (n : Nat) (h : 0 ≤ a) : ∃ x : Int, a % ((n : Int) + 1) = x ∧ 0 ≤ x ∧ x ≤ n := ⟨_, rfl, Int.emod_nonneg _ (by omega), by have := Int.emod_lt_of_pos a (show (0 : Int) < (n : Int) + 1 by omega); omega⟩
set_option maxHeartbeats 16000000 in
set_option maxRecDepth 100000 in
theorem antiphonlaw26_LedgerParts.calls (A0 : Option Addr) (c0 : Nat) (l0 : List (List Int)) (A1 : Option Addr) (c1 : Nat) (l1 : List (List Int)) (a2_0 a2_1 a2_2 : Int) (r : Bool) (w : World) (hr0 : Kd.C (Kd.slice 5 (Kd.int .u8)) w A0 l0.length l0) (hc0 : l0.length ≤ c0) (hr1 : Kd.C (Kd.slice 5 (Kd.int .u8)) w A1 l1.length l1) (hc1 : l1.length ≤ c1) (h : antiphonlaw26_LedgerParts.f l0 l1 a2_0 a2_1 a2_2 = some r) :
    Calls Try.prog 3 #[.slice A0 l0.length c0, .slice A1 l1.length c1, .agg #[.int .u8 a2_0, .int .u8 a2_1, .int .u8 a2_2]] w fun e w' => e = .returned (.bool r) ∧ Below w.heap.size w w' := by
  obtain ⟨rfl, hy0, hy1, hx0, hx1, hx2⟩ := parts_open h
  clear h
  have HR0 := Aside0.mk hr0
  have HR1 := Aside0.mk hr1
  have HY0 := Aside0.mk hy0
  have HY1 := Aside0.mk hy1
  have HC0 := Aside0.mk hc0
  have HC1 := Aside0.mk hc1
  have HX := Aside0.mk (And.intro hx0 (And.intro hx1 hx2))
  have HAW := Aside0.mk Lib.awake_ok
  clear hr0 hr1 hy0 hy1 hx0 hx1 hx2 hc0 hc1
  obtain ⟨s0, hs0⟩ : ∃ b, Lib.smallB l0 = b := ⟨_, rfl⟩
  obtain ⟨s1, hs1⟩ : ∃ b, Lib.smallB l1 = b := ⟨_, rfl⟩
  have HS0 := Aside0.mk ((Lib.small_ok l0 100 (by omega)).trans (congrArg some hs0))
  have HS1 := Aside0.mk ((Lib.small_ok l1 100 (by omega)).trans (congrArg some hs1))
  have HT0 := Aside0.mk hs0
  have HT1 := Aside0.mk hs1
  clear hs0 hs1
  have hbox := blk_new w (.cells #[.int .u8 a2_0, .int .u8 a2_1, .int .u8 a2_2] 23 (0, 0))
  have HN := Aside0.mk hbox
  clear hbox
  go_enter Try.func3, Try.ntmps3
  go_wp2_with fail
  refine (antiphonlaw26_awake.calls 60 true _ HAW.out).mono ?_
  rintro e wa ⟨rfl, hBa⟩
  have HNa := Aside0.mk ((hBa.block _ (blk_lt HN.out)).trans HN.out)
  have HBa := Aside0.mk (below_step (below_alloc (Below.refl w.heap.size w) _) hBa)
  clear hBa
  go_wp2_with fail
  refine (antiphonlaw26_small.calls 100 A0 c0 l0 s0 _ (Kd.C_below HR0.out HBa.out) HC0.out HS0.out).mono ?_
  rintro e wb ⟨rfl, hd⟩
  have HNb := Aside0.mk (((Drawn0.below hd).block _ (blk_lt HNa.out)).trans HNa.out)
  have HBb := Aside0.mk (below_step HBa.out (Drawn0.below hd))
  clear hd
  cases s0 with
  | false =>
    go_wp2_with fail
    go_ret
    exact ⟨rfl, HBb.out⟩
  | true =>
  go_wp2_with fail
  refine (antiphonlaw26_small.calls 100 A1 c1 l1 s1 _ (Kd.C_below HR1.out HBb.out) HC1.out HS1.out).mono ?_
  rintro e wc ⟨rfl, hd⟩
  have HNc := Aside0.mk (((Drawn0.below hd).block _ (blk_lt HNb.out)).trans HNb.out)
  have HBc := Aside0.mk (below_step HBb.out (Drawn0.below hd))
  clear hd
  cases s1 with
  | false =>
    go_wp2_with fail
    go_ret
    exact ⟨rfl, HBc.out⟩
  | true =>
  have ho0 := Lib.small_OkL HT0.out HY0.out
  have ho1 := Lib.small_OkL HT1.out HY1.out
  have HO0 := Aside0.mk ho0.1
  have HO1 := Aside0.mk ho1.1
  have hl0 := ho0.2
  have hl1 := ho1.2
  clear ho0 ho1 HS0 HS1 HT0 HT1 HAW HY0 HY1
  have n0 : wc.cell? ⟨w.heap.size, 0, none⟩ = some (.int .u8 a2_0) := (blk_cell HNc.out 0).trans rfl
  have n1 : wc.cell? ⟨w.heap.size, 1, none⟩ = some (.int .u8 a2_1) := (blk_cell HNc.out 1).trans rfl
  have n2 : wc.cell? ⟨w.heap.size, 2, none⟩ = some (.int .u8 a2_2) := (blk_cell HNc.out 2).trans rfl
  obtain ⟨hx0, hx1, hx2⟩ := HX.out
  go_wp2_with fail
  go_quiet (fail)
  obtain ⟨x, ex, x0, x1⟩ := rem_in a2_0 l0.length hx0.1
  obtain ⟨y, ey, y0, y1⟩ := rem_in a2_1 l0.length hx1.1
  obtain ⟨z, ez, z0, z1⟩ := rem_in a2_2 l1.length hx2.1
  simp only [ex, ey, ez]
  clear ex ey ez n0 n1 n2 hx0 hx1 hx2
  generalize hwq : wc.drewN _ = wd
  have HBd := Aside0.mk (show Below w.heap.size w wd by rw [← hwq]; exact pw_below_drewN HBc.out _)
  clear hwq
  obtain ⟨lo, hlo⟩ : ∃ lo, (if y < x then y else x) = lo := ⟨_, rfl⟩
  obtain ⟨hi, hhi⟩ : ∃ hi, (if x < y then y else x) = hi := ⟨_, rfl⟩
  have hlh : 0 ≤ lo ∧ lo ≤ hi ∧ hi ≤ l0.length := by rw [← hlo, ← hhi]; split <;> split <;> omega
  obtain ⟨i0, hi0, _, hsz, _⟩ := info_parts info42
  have cut1 := cut_to (P := Try.prog) 22 42 .i64 Try.underlying22 hi0 A0 l0.length c0 x x0 x1 HC0.out
  have cut2 := cut_from (P := Try.prog) 22 42 .i64 Try.underlying22 hi0 1 hsz A0 l0.length c0 y y0 y1
  have cut3 := cut_to (P := Try.prog) 22 42 .i64 Try.underlying22 hi0 A1 l1.length c1 z z0 z1 HC1.out
  have cut4 := cut_from (P := Try.prog) 22 42 .i64 Try.underlying22 hi0 1 hsz A1 l1.length c1 z z0 z1
  have cut5 := cut_mid (P := Try.prog) 22 42 .i64 .i64 Try.underlying22 hi0 1 hsz A0 l0.length c0 lo hi hlh.1 hlh.2.1 hlh.2.2 HC0.out
  have g1 := Kd.C_take (m := x.toNat) (Kd.C_below HR0.out HBd.out) (by omega)
  have g2 := Kd.C_drop (m := y.toNat) (Kd.C_below HR0.out HBd.out) (by omega) HC0.out
  have g3 := Kd.C_take (m := z.toNat) (Kd.C_below HR1.out HBd.out) (by omega)
  have g4 := Kd.C_drop (m := z.toNat) (Kd.C_below HR1.out HBd.out) (by omega) HC1.out
  have g5 := Kd.C_mid (lo := lo.toNat) (hi := hi.toNat) (c := c0) (Kd.C_below HR0.out HBd.out) (by omega) (by omega) HC0.out
  rw [show x.toNat = (l0.take x.toNat).length by rw [List.length_take]; omega] at cut1
  rw [show l0.length - y.toNat = (l0.drop y.toNat).length by rw [List.length_drop]] at cut2
  rw [show z.toNat = (l1.take z.toNat).length by rw [List.length_take]; omega] at cut3
  rw [show l1.length - z.toNat = (l1.drop z.toNat).length by rw [List.length_drop]] at cut4
  rw [show hi.toNat - lo.toNat = ((l0.take hi.toNat).drop lo.toNat).length by rw [List.length_drop, List.length_take]; omega] at cut5
  have k2 : (l0.drop y.toNat).length ≤ c0 - y.toNat := by have := HC0.out; rw [List.length_drop]; omega
  have k4 : (l1.drop z.toNat).length ≤ c1 - z.toNat := by have := HC1.out; rw [List.length_drop]; omega
  have k5 : ((l0.take hi.toNat).drop lo.toNat).length ≤ c0 - lo.toNat := by have := HC0.out; rw [List.length_drop, List.length_take]; omega
  have k1 : (l0.take x.toNat).length ≤ c0 := by have := HC0.out; rw [List.length_take]; omega
  have k3 : (l1.take z.toNat).length ≤ c1 := by have := HC1.out; rw [List.length_take]; omega
  have o1 := HO0.out.take x.toNat
  have o2 := HO0.out.drop y.toNat
  have o3 := HO1.out.take z.toNat
  have o4 := HO1.out.drop z.toNat
  have o5 := (HO0.out.take hi.toNat).drop lo.toNat
  rw [show (Kd.slice 5 (Kd.int .u8)).sz = 1 from rfl] at g2 g4 g5
  generalize l0.take x.toNat = m1 at cut1 g1 k1 o1
  generalize l0.drop y.toNat = m2 at cut2 g2 k2 o2
  generalize l1.take z.toNat = m3 at cut3 g3 k3 o3
  generalize l1.drop z.toNat = m4 at cut4 g4 k4 o4
  generalize (l0.take hi.toNat).drop lo.toNat = m5 at cut5 g5 k5 o5
  generalize (if c0 = y.toNat then A0 else (A0 : Option Addr).map (·.add (y.toNat * 1))) = B2 at cut2 g2
  generalize (if c1 = z.toNat then A1 else (A1 : Option Addr).map (·.add (z.toNat * 1))) = B4 at cut4 g4
  generalize (if c0 = lo.toNat then A0 else (A0 : Option Addr).map (·.add (lo.toNat * 1))) = B5 at cut5 g5
  generalize c0 - y.toNat = d2 at cut2 k2
  generalize c1 - z.toNat = d4 at cut4 k4
  generalize c0 - lo.toNat = d5 at cut5 k5
  have G1 := Aside0.mk g1
  have G2 := Aside0.mk g2
  have G3 := Aside0.mk g3
  have G4 := Aside0.mk g4
  have G5 := Aside0.mk g5
  have OA := Aside0.mk (And.intro o1 (And.intro o2 (And.intro o3 (And.intro o4 o5))))
  have KA := Aside0.mk (And.intro k1 (And.intro k2 (And.intro k3 (And.intro k4 k5))))
  have XY := Aside0.mk (And.intro x0 (And.intro y0 (And.intro z0 hlh)))
  clear g1 g2 g3 g4 g5 o1 o2 o3 o4 o5 k1 k2 k3 k4 k5 hl0 hl1 hi0 hsz x0 x1 y0 y1 z0 z1 hlh
  go_wp2_with fail
  refine start_ (n := 12) (S := fun w' => True) (ds := []) #[false, false, false, false, false, false, false, false, false, false, false, false] (by kernel_rfl) rfl rfl trivial (fun hHeld => ?_)
  refine pure_ (i := 0) (N := some 43) (v := ?_) (a' := ?_) #[true, false, false, false, false, false, false, false, false, false, false, false] rfl rfl (by kernel_rfl) (fun _ _ _ h => h) (Or.inl ⟨by rfl, ?_⟩) ?_ ?_
  rotate_left
  · intro w'
    go_simp
    with_reducible rfl
  rotate_left
  · simp only [Act.put, List.setIfInBounds_toArray, List.set_cons_zero, List.set_cons_succ, i64_w, i32_w]
    rfl
  refine pure_ (i := 1) (N := some 44) (v := ?_) (a' := ?_) #[true, true, false, false, false, false, false, false, false, false, false, false] rfl rfl (by kernel_rfl) (fun _ _ _ h => h) (Or.inl ⟨by rfl, ?_⟩) ?_ ?_
  rotate_left
  · intro w'
    go_simp
    with_reducible rfl
  rotate_left
  · simp only [Act.put, List.setIfInBounds_toArray, List.set_cons_zero, List.set_cons_succ, i64_w, i32_w]
    rfl
  refine pure_ (i := 2) (N := some 45) (v := ?_) (a' := ?_) #[true, true, true, false, false, false, false, false, false, false, false, false] rfl rfl (by kernel_rfl) (fun _ _ _ h => h) (Or.inl ⟨by rfl, ?_⟩) ?_ ?_
  rotate_left
  · intro w'
    go_simp
    with_reducible rfl
  rotate_left
  · simp only [Act.put, List.setIfInBounds_toArray, List.set_cons_zero, List.set_cons_succ, i64_w, i32_w]
    rfl
  refine pure_ (i := 3) (N := some 46) (v := ?_) (a' := ?_) #[true, true, true, true, false, false, false, false, false, false, false, false] rfl rfl (by kernel_rfl) (fun _ _ _ h => h) (Or.inl ⟨by rfl, ?_⟩) ?_ ?_
  rotate_left
  · intro w'
    go_simp
    with_reducible rfl
  rotate_left
  · simp only [Act.put, List.setIfInBounds_toArray, List.set_cons_zero, List.set_cons_succ, i64_w, i32_w]
    rfl
  refine pure_ (i := 4) (N := some 47) (v := ?_) (a' := ?_) #[true, true, true, true, true, false, false, false, false, false, false, false] rfl rfl (by kernel_rfl) (fun _ _ _ h => h) (Or.inl ⟨by rfl, ?_⟩) ?_ ?_
  rotate_left
  · intro w'
    go_simp
    with_reducible rfl
  rotate_left
  · simp only [Act.put, List.setIfInBounds_toArray, List.set_cons_zero, List.set_cons_succ, i64_w, i32_w]
    rfl
  refine pure_ (i := 5) (N := some 48) (v := ?_) (a' := ?_) #[true, true, true, true, true, true, false, false, false, false, false, false] rfl rfl (by kernel_rfl) (fun _ _ _ h => h) (Or.inl ⟨by rfl, ?_⟩) ?_ ?_
  rotate_left
  · intro w'
    go_simp
    with_reducible rfl
  rotate_left
  · simp only [Act.put, List.setIfInBounds_toArray, List.set_cons_zero, List.set_cons_succ, i64_w, i32_w]
    rfl
  refine pure_ (i := 6) (N := some 49) (v := ?_) (a' := ?_) #[true, true, true, true, true, true, true, false, false, false, false, false] rfl rfl (by kernel_rfl) (fun _ _ _ h => h) (Or.inl ⟨by rfl, ?_⟩) ?_ ?_
  rotate_left
  · intro w'
    go_simp
    with_reducible rfl
  rotate_left
  · simp only [Act.put, List.setIfInBounds_toArray, List.set_cons_zero, List.set_cons_succ, i64_w, i32_w]
    rfl
  refine pure_ (i := 7) (N := some 50) (v := ?_) (a' := ?_) #[true, true, true, true, true, true, true, true, false, false, false, false] rfl rfl (by kernel_rfl) (fun _ _ _ h => h) (Or.inl ⟨by rfl, ?_⟩) ?_ ?_
  rotate_left
  · intro w'
    go_simp
    with_reducible rfl
  rotate_left
  · simp only [Act.put, List.setIfInBounds_toArray, List.set_cons_zero, List.set_cons_succ, i64_w, i32_w]
    rfl
  refine pure_ (i := 8) (N := some 51) (v := ?_) (a' := ?_) #[true, true, true, true, true, true, true, true, true, false, false, false] rfl rfl (by kernel_rfl) (fun _ _ _ h => h) (Or.inl ⟨by rfl, ?_⟩) ?_ ?_
  rotate_left
  · intro w'
    go_simp
    with_reducible rfl
  rotate_left
  · simp only [Act.put, List.setIfInBounds_toArray, List.set_cons_zero, List.set_cons_succ, i64_w, i32_w]
    rfl
  refine pure_ (i := 9) (N := some 52) (v := ?_) (a' := ?_) #[true, true, true, true, true, true, true, true, true, true, false, false] rfl rfl (by kernel_rfl) (fun _ _ _ h => h) (Or.inl ⟨by rfl, ?_⟩) ?_ ?_
  rotate_left
  · intro w'
    go_simp
    with_reducible rfl
  rotate_left
  · simp only [Act.put, List.setIfInBounds_toArray, List.set_cons_zero, List.set_cons_succ, i64_w, i32_w]
    rfl
  refine one_ (i := 10) (N := some 53) #[true, true, true, true, true, true, true, true, true, true, true, false] rfl rfl (by kernel_rfl) (by decide) (fun K hK => ?_)
  refine value_ (w1 := ?_) (v := ?_) (by rfl) rfl ?_ ?_
  rotate_left 2
  · go_simp
    constructor
    · rfl
    · rfl
  refine hK.out _ _ trivial (fun hHeld => ?_)
  clear hK K
  refine norm_ (a' := ?_) ?_ ?_
  rotate_left
  · show Act.put _ (some 53) _ = _
    simp only [Act.put, List.setIfInBounds_toArray, List.set_cons_zero, List.set_cons_succ, i64_w, i32_w]
    rfl
  refine pure_ (i := 11) (N := some 10) (v := ?_) (a' := ?_) #[true, true, true, true, true, true, true, true, true, true, true, true] rfl rfl (by kernel_rfl) (fun _ _ _ h => h) (Or.inl ⟨by rfl, ?_⟩) ?_ ?_
  rotate_left
  · intro w'
    go_simp
    with_reducible rfl
  rotate_left
  · simp only [Act.put, List.setIfInBounds_toArray, List.set_cons_zero, List.set_cons_succ, i64_w, i32_w]
    rfl
  refine done_ (by kernel_rfl) ?_
  generalize hwq : (wd.alloc (.cells #[.int .i64 0, .slice A0 m1.length c0, .int .i64 0, .slice B2 m2.length d2, .int .i64 0, .slice A1 l1.length c1] 27 (0, 0))).drew = we
  have HSe := Aside0.mk (show we.heap[wd.heap.size]? = some (.cells #[.int .i64 0, .slice A0 m1.length c0, .int .i64 0, .slice B2 m2.length d2, .int .i64 0, .slice A1 l1.length c1] 27 (0, 0)) by rw [← hwq]; exact blk_new wd _)
  have HBde := Aside0.mk (show Below wd.heap.size wd we by rw [← hwq]; exact below_drew (below_alloc (Below.refl _ _) _))
  have HBe := Aside0.mk (below_step HBd.out HBde.out)
  clear hwq
  generalize wd.heap.size = bS at HSe ⊢
  go_wp2_with fail
  refine start_ (n := 19) (S := fun w' => True) (ds := []) #[false, false, false, false, false, false, false, false, false, false, false, false, false, false, false, false, false, false, false] (by kernel_rfl) rfl rfl trivial (fun hHeld => ?_)
  refine pure_ (i := 0) (N := some 54) (v := ?_) (a' := ?_) #[true, false, false, false, false, false, false, false, false, false, false, false, false, false, false, false, false, false, false] rfl rfl (by kernel_rfl) (fun _ _ _ h => h) (Or.inl ⟨by rfl, ?_⟩) ?_ ?_
  rotate_left
  · intro w'
    go_simp
    with_reducible rfl
  rotate_left
  · simp only [Act.put, List.setIfInBounds_toArray, List.set_cons_zero, List.set_cons_succ, i64_w, i32_w]
    rfl
  refine pure_ (i := 1) (N := some 55) (v := ?_) (a' := ?_) #[true, true, false, false, false, false, false, false, false, false, false, false, false, false, false, false, false, false, false] rfl rfl (by kernel_rfl) (fun _ _ _ h => h) (Or.inl ⟨by rfl, ?_⟩) ?_ ?_
  rotate_left
  · intro w'
    go_simp
    with_reducible rfl
  rotate_left
  · simp only [Act.put, List.setIfInBounds_toArray, List.set_cons_zero, List.set_cons_succ, i64_w, i32_w]
    rfl
  refine pure_ (i := 2) (N := some 56) (v := ?_) (a' := ?_) #[true, true, true, false, false, false, false, false, false, false, false, false, false, false, false, false, false, false, false] rfl rfl (by kernel_rfl) (fun _ _ _ h => h) (Or.inl ⟨by rfl, ?_⟩) ?_ ?_
  rotate_left
  · intro w'
    go_simp
    with_reducible rfl
  rotate_left
  · simp only [Act.put, List.setIfInBounds_toArray, List.set_cons_zero, List.set_cons_succ, i64_w, i32_w]
    rfl
  refine pure_ (i := 3) (N := some 57) (v := ?_) (a' := ?_) #[true, true, true, true, false, false, false, false, false, false, false, false, false, false, false, false, false, false, false] rfl rfl (by kernel_rfl) (fun _ _ _ h => h) (Or.inl ⟨by rfl, ?_⟩) ?_ ?_
  rotate_left
  · intro w'
    go_simp
    with_reducible rfl
  rotate_left
  · simp only [Act.put, List.setIfInBounds_toArray, List.set_cons_zero, List.set_cons_succ, i64_w, i32_w]
    rfl
  refine pure_ (i := 4) (N := some 58) (v := ?_) (a' := ?_) #[true, true, true, true, true, false, false, false, false, false, false, false, false, false, false, false, false, false, false] rfl rfl (by kernel_rfl) (fun _ _ _ h => h) (Or.inl ⟨by rfl, ?_⟩) ?_ ?_
  rotate_left
  · intro w'
    go_simp
    with_reducible rfl
  rotate_left
  · simp only [Act.put, List.setIfInBounds_toArray, List.set_cons_zero, List.set_cons_succ, i64_w, i32_w]
    rfl
  refine pure_ (i := 5) (N := some 59) (v := ?_) (a' := ?_) #[true, true, true, true, true, true, false, false, false, false, false, false, false, false, false, false, false, false, false] rfl rfl (by kernel_rfl) (fun _ _ _ h => h) (Or.inl ⟨by rfl, ?_⟩) ?_ ?_
  rotate_left
  · intro w'
    go_simp
    with_reducible rfl
  rotate_left
  · simp only [Act.put, List.setIfInBounds_toArray, List.set_cons_zero, List.set_cons_succ, i64_w, i32_w]
    rfl
  refine pure_ (i := 6) (N := some 60) (v := ?_) (a' := ?_) #[true, true, true, true, true, true, true, false, false, false, false, false, false, false, false, false, false, false, false] rfl rfl (by kernel_rfl) (fun _ _ _ h => h) (Or.inl ⟨by rfl, ?_⟩) ?_ ?_
  rotate_left
  · intro w'
    go_simp
    with_reducible rfl
  rotate_left
  · simp only [Act.put, List.setIfInBounds_toArray, List.set_cons_zero, List.set_cons_succ, i64_w, i32_w]
    rfl
  refine pure_ (i := 7) (N := some 61) (v := ?_) (a' := ?_) #[true, true, true, true, true, true, true, true, false, false, false, false, false, false, false, false, false, false, false] rfl rfl (by kernel_rfl) (fun _ _ _ h => h) (Or.inl ⟨by rfl, ?_⟩) ?_ ?_
  rotate_left
  · intro w'
    go_simp
    with_reducible rfl
  rotate_left
  · simp only [Act.put, List.setIfInBounds_toArray, List.set_cons_zero, List.set_cons_succ, i64_w, i32_w]
    rfl
  refine pure_ (i := 8) (N := some 62) (v := ?_) (a' := ?_) #[true, true, true, true, true, true, true, true, true, false, false, false, false, false, false, false, false, false, false] rfl rfl (by kernel_rfl) (fun _ _ _ h => h) (Or.inl ⟨by rfl, ?_⟩) ?_ ?_
  rotate_left
  · intro w'
    go_simp
    with_reducible rfl
  rotate_left
  · simp only [Act.put, List.setIfInBounds_toArray, List.set_cons_zero, List.set_cons_succ, i64_w, i32_w]
    rfl
  refine pure_ (i := 9) (N := some 63) (v := ?_) (a' := ?_) #[true, true, true, true, true, true, true, true, true, true, false, false, false, false, false, false, false, false, false] rfl rfl (by kernel_rfl) (fun _ _ _ h => h) (Or.inl ⟨by rfl, ?_⟩) ?_ ?_
  rotate_left
  · intro w'
    go_simp
    with_reducible rfl
  rotate_left
  · simp only [Act.put, List.setIfInBounds_toArray, List.set_cons_zero, List.set_cons_succ, i64_w, i32_w]
    rfl
  refine pure_ (i := 10) (N := some 64) (v := ?_) (a' := ?_) #[true, true, true, true, true, true, true, true, true, true, true, false, false, false, false, false, false, false, false] rfl rfl (by kernel_rfl) (fun _ _ _ h => h) (Or.inl ⟨by rfl, ?_⟩) ?_ ?_
  rotate_left
  · intro w'
    go_simp
    with_reducible rfl
  rotate_left
  · simp only [Act.put, List.setIfInBounds_toArray, List.set_cons_zero, List.set_cons_succ, i64_w, i32_w]
    rfl
  refine pure_ (i := 11) (N := some 65) (v := ?_) (a' := ?_) #[true, true, true, true, true, true, true, true, true, true, true, true, false, false, false, false, false, false, false] rfl rfl (by kernel_rfl) (fun _ _ _ h => h) (Or.inl ⟨by rfl, ?_⟩) ?_ ?_
  rotate_left
  · intro w'
    go_simp
    with_reducible rfl
  rotate_left
  · simp only [Act.put, List.setIfInBounds_toArray, List.set_cons_zero, List.set_cons_succ, i64_w, i32_w]
    rfl
  refine pure_ (i := 12) (N := some 66) (v := ?_) (a' := ?_) #[true, true, true, true, true, true, true, true, true, true, true, true, true, false, false, false, false, false, false] rfl rfl (by kernel_rfl) (fun _ _ _ h => h) (Or.inl ⟨by rfl, ?_⟩) ?_ ?_
  rotate_left
  · intro w'
    go_simp
    with_reducible rfl
  rotate_left
  · simp only [Act.put, List.setIfInBounds_toArray, List.set_cons_zero, List.set_cons_succ, i64_w, i32_w]
    rfl
  refine pure_ (i := 13) (N := some 67) (v := ?_) (a' := ?_) #[true, true, true, true, true, true, true, true, true, true, true, true, true, true, false, false, false, false, false] rfl rfl (by kernel_rfl) (fun _ _ _ h => h) (Or.inl ⟨by rfl, ?_⟩) ?_ ?_
  rotate_left
  · intro w'
    go_simp
    with_reducible rfl
  rotate_left
  · simp only [Act.put, List.setIfInBounds_toArray, List.set_cons_zero, List.set_cons_succ, i64_w, i32_w]
    rfl
  refine pure_ (i := 14) (N := some 68) (v := ?_) (a' := ?_) #[true, true, true, true, true, true, true, true, true, true, true, true, true, true, true, false, false, false, false] rfl rfl (by kernel_rfl) (fun _ _ _ h => h) (Or.inl ⟨by rfl, ?_⟩) ?_ ?_
  rotate_left
  · intro w'
    go_simp
    with_reducible rfl
  rotate_left
  · simp only [Act.put, List.setIfInBounds_toArray, List.set_cons_zero, List.set_cons_succ, i64_w, i32_w]
    rfl
  refine pure_ (i := 15) (N := some 69) (v := ?_) (a' := ?_) #[true, true, true, true, true, true, true, true, true, true, true, true, true, true, true, true, false, false, false] rfl rfl (by kernel_rfl) (fun _ _ _ h => h) (Or.inl ⟨by rfl, ?_⟩) ?_ ?_
  rotate_left
  · intro w'
    go_simp
    with_reducible rfl
  rotate_left
  · simp only [Act.put, List.setIfInBounds_toArray, List.set_cons_zero, List.set_cons_succ, i64_w, i32_w]
    rfl
  refine pure_ (i := 16) (N := some 70) (v := ?_) (a' := ?_) #[true, true, true, true, true, true, true, true, true, true, true, true, true, true, true, true, true, false, false] rfl rfl (by kernel_rfl) (fun _ _ _ h => h) (Or.inl ⟨by rfl, ?_⟩) ?_ ?_
  rotate_left
  · intro w'
    go_simp
    with_reducible rfl
  rotate_left
  · simp only [Act.put, List.setIfInBounds_toArray, List.set_cons_zero, List.set_cons_succ, i64_w, i32_w]
    rfl
  refine one_ (i := 17) (N := some 71) #[true, true, true, true, true, true, true, true, true, true, true, true, true, true, true, true, true, true, false] rfl rfl (by kernel_rfl) (by decide) (fun K hK => ?_)
  refine value_ (w1 := ?_) (v := ?_) (by rfl) rfl ?_ ?_
  rotate_left 2
  · go_simp
    constructor
    · rfl
    · rfl
  refine hK.out _ _ trivial (fun hHeld => ?_)
  clear hK K
  refine norm_ (a' := ?_) ?_ ?_
  rotate_left
  · show Act.put _ (some 71) _ = _
    simp only [Act.put, List.setIfInBounds_toArray, List.set_cons_zero, List.set_cons_succ, i64_w, i32_w]
    rfl
  refine pure_ (i := 18) (N := some 11) (v := ?_) (a' := ?_) #[true, true, true, true, true, true, true, true, true, true, true, true, true, true, true, true, true, true, true] rfl rfl (by kernel_rfl) (fun _ _ _ h => h) (Or.inl ⟨by rfl, ?_⟩) ?_ ?_
  rotate_left
  · intro w'
    go_simp
    with_reducible rfl
  rotate_left
  · simp only [Act.put, List.setIfInBounds_toArray, List.set_cons_zero, List.set_cons_succ, i64_w, i32_w]
    rfl
  refine done_ (by kernel_rfl) ?_
  generalize hwq : (we.alloc (.cells #[.int .i64 0, .slice A1 m3.length c1, .int .i64 0, .slice B4 m4.length d4, .int .i64 0, .slice B5 m5.length d5] 27 (0, 0))).drew = wf
  have HBef := Aside0.mk (show Below we.heap.size we wf by rw [← hwq]; exact below_drew (below_alloc (Below.refl _ _) _))
  have hTf : wf.heap[we.heap.size]? = some (.cells #[.int .i64 0, .slice A1 m3.length c1, .int .i64 0, .slice B4 m4.length d4, .int .i64 0, .slice B5 m5.length d5] 27 (0, 0)) := by rw [← hwq]; exact blk_new we _
  have hSf := (HBef.out.block _ (blk_lt HSe.out)).trans HSe.out
  have HBdf := Aside0.mk (below_step HBde.out HBef.out)
  have HBf := Aside0.mk (below_step HBe.out HBef.out)
  clear hwq
  have CS := Aside0.mk (C3_27 hSf KA.out.1 KA.out.2.1 HC1.out (Kd.C_below G1.out HBdf.out) (Kd.C_below G2.out HBdf.out) (Kd.C_below HR1.out HBf.out))
  have CT := Aside0.mk (C3_27 hTf KA.out.2.2.1 KA.out.2.2.2.1 KA.out.2.2.2.2 (Kd.C_below G3.out HBdf.out) (Kd.C_below G4.out HBdf.out) (Kd.C_below G5.out HBdf.out))
  clear hTf hSf G1 G2 G3 G4 G5 cut1 cut2 cut3 cut4 cut5
  obtain ⟨o1, o2, o3, o4, o5⟩ := OA.out
  have o6 := HO1.out
  have OS := Aside0.mk (show Lib.OkR (([⟨0, m1⟩, ⟨0, m2⟩, ⟨0, l1⟩] : List S27).map S27.f1) from ⟨(show 3 ≤ 1000 by decide), by intro q hq; simp at hq; rcases hq with rfl | rfl | rfl <;> assumption⟩)
  have OT := Aside0.mk (show Lib.OkR (([⟨0, m3⟩, ⟨0, m4⟩, ⟨0, m5⟩] : List S27).map S27.f1) from ⟨(show 3 ≤ 1000 by decide), by intro q hq; simp at hq; rcases hq with rfl | rfl | rfl <;> assumption⟩)
  have OT2 := Aside0.mk (show Lib.OkR (([⟨0, m3⟩, ⟨0, m4⟩] : List S27).map S27.f1) from ⟨(show 2 ≤ 1000 by decide), by intro q hq; simp at hq; rcases hq with rfl | rfl <;> assumption⟩)
  have CT2 := Aside0.mk (show Kd.C k27 wf (some ⟨we.heap.size, 0, none⟩) 2 [⟨0, m3⟩, ⟨0, m4⟩] from Kd.C_take (m := 2) CT.out (show 2 ≤ 3 by decide))
  clear o1 o2 o3 o4 o5 o6 OA KA
  generalize we.heap.size = bT at CT CT2 ⊢
  obtain ⟨p, hp⟩ : ∃ p, Lib.partL l0 l1 = p := ⟨_, rfl⟩
  have P1 := Aside0.mk ((Lib.part_ok l0 l1 HO0.out HO1.out 5000 (by omega)).trans (congrArg some hp))
  have P2 := Aside0.mk ((Lib.rpart_ok l0 l1 HO0.out HO1.out 5000 (by omega)).trans (congrArg some hp))
  clear hp
  obtain ⟨ii, hii, _, hsz2, _⟩ := info_parts info27_
  have cut6 := cut_to (P := Try.prog) 28 27 .i64 Try.underlying28 hii (some ⟨bT, 0, none⟩) 3 3 2 (by decide) (by decide) (by decide)
  rw [show (2 : Int).toNat = 2 from rfl] at cut6
  clear hii hsz2
  by_cases hxy : y < x
  · have dxy : decide (y < x) = true := decide_eq_true hxy
    have u1e : ∃ u, Lib.withinL (([⟨0, m1⟩, ⟨0, m2⟩, ⟨0, l1⟩] : List S27).map S27.f1) (([⟨0, m3⟩, ⟨0, m4⟩] : List S27).map S27.f1) = u := ⟨_, rfl⟩
    obtain ⟨u1, hu1⟩ := u1e
    have u2e : ∃ u, Lib.withinL (([⟨0, m3⟩, ⟨0, m4⟩] : List S27).map S27.f1) (([⟨0, m1⟩, ⟨0, m2⟩, ⟨0, l1⟩] : List S27).map S27.f1) = u := ⟨_, rfl⟩
    obtain ⟨u2, hu2⟩ := u2e
    have kW1 := fun (A B : Option Addr) (c d : Nat) (hc : 3 ≤ c) (hd : 2 ≤ d) => within_called A B c d 3 2 ([⟨0, m1⟩, ⟨0, m2⟩, ⟨0, l1⟩] : List S27) ([⟨0, m3⟩, ⟨0, m4⟩] : List S27) rfl rfl (by decide) (by decide) hc hd OS.out OT2.out
    rw [hu1] at kW1
    have W1 := Aside0.mk kW1
    have kW2 := fun (A B : Option Addr) (c d : Nat) (hc : 2 ≤ c) (hd : 3 ≤ d) => within_called A B c d 2 3 ([⟨0, m3⟩, ⟨0, m4⟩] : List S27) ([⟨0, m1⟩, ⟨0, m2⟩, ⟨0, l1⟩] : List S27) rfl rfl (by decide) (by decide) hc hd OT2.out OS.out
    rw [hu2] at kW2
    have W2 := Aside0.mk kW2
    have kR1 := fun (A B : Option Addr) (c d : Nat) (hc : 3 ≤ c) (hd : 2 ≤ d) => rwithin_called A B c d 3 2 ([⟨0, m1⟩, ⟨0, m2⟩, ⟨0, l1⟩] : List S27) ([⟨0, m3⟩, ⟨0, m4⟩] : List S27) rfl rfl (by decide) (by decide) hc hd OS.out OT2.out
    rw [hu1] at kR1
    have R1 := Aside0.mk kR1
    have kR2 := fun (A B : Option Addr) (c d : Nat) (hc : 2 ≤ c) (hd : 3 ≤ d) => rwithin_called A B c d 2 3 ([⟨0, m3⟩, ⟨0, m4⟩] : List S27) ([⟨0, m1⟩, ⟨0, m2⟩, ⟨0, l1⟩] : List S27) rfl rfl (by decide) (by decide) hc hd OT2.out OS.out
    rw [hu2] at kR2
    have R2 := Aside0.mk kR2
    clear hu1 hu2 kW1 kW2 kR1 kR2
    go_wp2_with fail
    refine (ledger_Part.calls 5000 A0 c0 l0 A1 c1 l1 p _ (Kd.C_below HR0.out HBf.out) HC0.out (Kd.C_below HR1.out HBf.out) HC1.out P1.out).mono ?_
    rintro e y1 ⟨rfl, hd⟩
    have HE1 := Aside0.mk (Drawn0.below hd)
    have HF1 := Aside0.mk (below_step HBf.out HE1.out)
    clear hd
    go_wp2_with fail
    refine (antiphonref24_Part.calls 5000 A0 c0 l0 A1 c1 l1 p _ (Kd.C_below HR0.out HF1.out) HC0.out (Kd.C_below HR1.out HF1.out) HC1.out P2.out).mono ?_
    rintro e y2 ⟨rfl, hd⟩
    have HE2 := Aside0.mk (below_step HE1.out (Drawn0.below hd))
    clear hd
    go_wp2_with fail
    refine (runs_called (some ⟨bS, 0, none⟩) 3 3 ([⟨0, m1⟩, ⟨0, m2⟩, ⟨0, l1⟩] : List S27) rfl (by decide) (by decide) _ (Kd.C_below CS.out HE2.out)).mono ?_
    rintro e y3 ⟨Qa, qa, rfl, hq, hC, hb⟩
    have HE3 := Aside0.mk (below_step HE2.out hb)
    have Ca := Aside0.mk hC
    have Ha := Aside0.mk hq
    have HNa := Aside0.mk (Below.refl y3.heap.size y3)
    clear hq hC hb
    go_wp2_with fail
    refine (runs_called (some ⟨bT, 0, none⟩) 3 2 ([⟨0, m3⟩, ⟨0, m4⟩] : List S27) rfl (by decide) (by decide) _ (Kd.C_below CT2.out HE3.out)).mono ?_
    rintro e y4 ⟨Qb, qb, rfl, hq, hC, hb⟩
    have HE4 := Aside0.mk (below_step HE3.out hb)
    have Cb := Aside0.mk hC
    replace Ca := Aside0.mk (Kd.C_below Ca.out hb)
    have Hb := Aside0.mk hq
    clear hq hC hb
    go_wp2_with fail
    refine (W1.out (Qa) (Qb) qa qb Ha.out Hb.out _ Ca.out Cb.out).mono ?_
    rintro e y5 ⟨rfl, hb⟩
    have HE5 := Aside0.mk (below_step HE4.out hb)
    clear hb
    go_wp2_with fail
    refine (R1.out (some ⟨bS, 0, none⟩) (some ⟨bT, 0, none⟩) 3 3 (by decide) (by decide) _ (Kd.C_below CS.out HE5.out) (Kd.C_below CT2.out HE5.out)).mono ?_
    rintro e y6 ⟨rfl, hd⟩
    have HE6 := Aside0.mk (below_step HE5.out (Drawn0.below hd))
    clear hd
    go_wp2_with fail
    refine (runs_called (some ⟨bT, 0, none⟩) 3 2 ([⟨0, m3⟩, ⟨0, m4⟩] : List S27) rfl (by decide) (by decide) _ (Kd.C_below CT2.out HE6.out)).mono ?_
    rintro e y7 ⟨Qc, qc, rfl, hq, hC, hb⟩
    have HE7 := Aside0.mk (below_step HE6.out hb)
    have Cc := Aside0.mk hC
    have Hc := Aside0.mk hq
    clear hq hC hb
    go_wp2_with fail
    refine (runs_called (some ⟨bS, 0, none⟩) 3 3 ([⟨0, m1⟩, ⟨0, m2⟩, ⟨0, l1⟩] : List S27) rfl (by decide) (by decide) _ (Kd.C_below CS.out HE7.out)).mono ?_
    rintro e y8 ⟨Qd, qd, rfl, hq, hC, hb⟩
    have HE8 := Aside0.mk (below_step HE7.out hb)
    have Cd := Aside0.mk hC
    replace Cc := Aside0.mk (Kd.C_below Cc.out hb)
    have Hd := Aside0.mk hq
    clear hq hC hb
    go_wp2_with fail
    refine (W2.out Qc Qd qc qd Hc.out Hd.out _ Cc.out Cd.out).mono ?_
    rintro e y9 ⟨rfl, hb⟩
    have HE9 := Aside0.mk (below_step HE8.out hb)
    clear hb
    go_wp2_with fail
    refine (R2.out (some ⟨bT, 0, none⟩) (some ⟨bS, 0, none⟩) 3 3 (by decide) (by decide) _ (Kd.C_below CT2.out HE9.out) (Kd.C_below CS.out HE9.out)).mono ?_
    rintro e y10 ⟨rfl, hd⟩
    have HE10 := Aside0.mk (below_step HE9.out (Drawn0.below hd))
    clear hd
    go_wp2_with fail
    go_ret
    exact ⟨rfl, below_step HBf.out HE10.out⟩
  · have dxy : decide (y < x) = false := decide_eq_false hxy
    have u1e : ∃ u, Lib.withinL (([⟨0, m1⟩, ⟨0, m2⟩, ⟨0, l1⟩] : List S27).map S27.f1) (([⟨0, m3⟩, ⟨0, m4⟩, ⟨0, m5⟩] : List S27).map S27.f1) = u := ⟨_, rfl⟩
    obtain ⟨u1, hu1⟩ := u1e
    have u2e : ∃ u, Lib.withinL (([⟨0, m3⟩, ⟨0, m4⟩, ⟨0, m5⟩] : List S27).map S27.f1) (([⟨0, m1⟩, ⟨0, m2⟩, ⟨0, l1⟩] : List S27).map S27.f1) = u := ⟨_, rfl⟩
    obtain ⟨u2, hu2⟩ := u2e
    have kW1 := fun (A B : Option Addr) (c d : Nat) (hc : 3 ≤ c) (hd : 3 ≤ d) => within_called A B c d 3 3 ([⟨0, m1⟩, ⟨0, m2⟩, ⟨0, l1⟩] : List S27) ([⟨0, m3⟩, ⟨0, m4⟩, ⟨0, m5⟩] : List S27) rfl rfl (by decide) (by decide) hc hd OS.out OT.out
    rw [hu1] at kW1
    have W1 := Aside0.mk kW1
    have kW2 := fun (A B : Option Addr) (c d : Nat) (hc : 3 ≤ c) (hd : 3 ≤ d) => within_called A B c d 3 3 ([⟨0, m3⟩, ⟨0, m4⟩, ⟨0, m5⟩] : List S27) ([⟨0, m1⟩, ⟨0, m2⟩, ⟨0, l1⟩] : List S27) rfl rfl (by decide) (by decide) hc hd OT.out OS.out
    rw [hu2] at kW2
    have W2 := Aside0.mk kW2
    have kR1 := fun (A B : Option Addr) (c d : Nat) (hc : 3 ≤ c) (hd : 3 ≤ d) => rwithin_called A B c d 3 3 ([⟨0, m1⟩, ⟨0, m2⟩, ⟨0, l1⟩] : List S27) ([⟨0, m3⟩, ⟨0, m4⟩, ⟨0, m5⟩] : List S27) rfl rfl (by decide) (by decide) hc hd OS.out OT.out
    rw [hu1] at kR1
    have R1 := Aside0.mk kR1
    have kR2 := fun (A B : Option Addr) (c d : Nat) (hc : 3 ≤ c) (hd : 3 ≤ d) => rwithin_called A B c d 3 3 ([⟨0, m3⟩, ⟨0, m4⟩, ⟨0, m5⟩] : List S27) ([⟨0, m1⟩, ⟨0, m2⟩, ⟨0, l1⟩] : List S27) rfl rfl (by decide) (by decide) hc hd OT.out OS.out
    rw [hu2] at kR2
    have R2 := Aside0.mk kR2
    clear hu1 hu2 kW1 kW2 kR1 kR2
    go_wp2_with fail
    refine (ledger_Part.calls 5000 A0 c0 l0 A1 c1 l1 p _ (Kd.C_below HR0.out HBf.out) HC0.out (Kd.C_below HR1.out HBf.out) HC1.out P1.out).mono ?_
    rintro e y1 ⟨rfl, hd⟩
    have HE1 := Aside0.mk (Drawn0.below hd)
    have HF1 := Aside0.mk (below_step HBf.out HE1.out)
    clear hd
    go_wp2_with fail
    refine (antiphonref24_Part.calls 5000 A0 c0 l0 A1 c1 l1 p _ (Kd.C_below HR0.out HF1.out) HC0.out (Kd.C_below HR1.out HF1.out) HC1.out P2.out).mono ?_
    rintro e y2 ⟨rfl, hd⟩
    have HE2 := Aside0.mk (below_step HE1.out (Drawn0.below hd))
    clear hd
    go_wp2_with fail
    refine (runs_called (some ⟨bS, 0, none⟩) 3 3 ([⟨0, m1⟩, ⟨0, m2⟩, ⟨0, l1⟩] : List S27) rfl (by decide) (by decide) _ (Kd.C_below CS.out HE2.out)).mono ?_
    rintro e y3 ⟨Qa, qa, rfl, hq, hC, hb⟩
    have HE3 := Aside0.mk (below_step HE2.out hb)
    have Ca := Aside0.mk hC
    have Ha := Aside0.mk hq
    have HNa := Aside0.mk (Below.refl y3.heap.size y3)
    clear hq hC hb
    go_wp2_with fail
    refine (runs_called (some ⟨bT, 0, none⟩) 3 3 ([⟨0, m3⟩, ⟨0, m4⟩, ⟨0, m5⟩] : List S27) rfl (by decide) (by decide) _ (Kd.C_below CT.out HE3.out)).mono ?_
    rintro e y4 ⟨Qb, qb, rfl, hq, hC, hb⟩
    have HE4 := Aside0.mk (below_step HE3.out hb)
    have Cb := Aside0.mk hC
    replace Ca := Aside0.mk (Kd.C_below Ca.out hb)
    have Hb := Aside0.mk hq
    clear hq hC hb
    go_wp2_with fail
    refine (W1.out (Qa) (Qb) qa qb Ha.out Hb.out _ Ca.out Cb.out).mono ?_
    rintro e y5 ⟨rfl, hb⟩
    have HE5 := Aside0.mk (below_step HE4.out hb)
    clear hb
    go_wp2_with fail
    refine (R1.out (some ⟨bS, 0, none⟩) (some ⟨bT, 0, none⟩) 3 3 (by decide) (by decide) _ (Kd.C_below CS.out HE5.out) (Kd.C_below CT.out HE5.out)).mono ?_
    rintro e y6 ⟨rfl, hd⟩
    have HE6 := Aside0.mk (below_step HE5.out (Drawn0.below hd))
    clear hd
    go_wp2_with fail
    refine (runs_called (some ⟨bT, 0, none⟩) 3 3 ([⟨0, m3⟩, ⟨0, m4⟩, ⟨0, m5⟩] : List S27) rfl (by decide) (by decide) _ (Kd.C_below CT.out HE6.out)).mono ?_
    rintro e y7 ⟨Qc, qc, rfl, hq, hC, hb⟩
    have HE7 := Aside0.mk (below_step HE6.out hb)
    have Cc := Aside0.mk hC
    have Hc := Aside0.mk hq
    clear hq hC hb
    go_wp2_with fail
    refine (runs_called (some ⟨bS, 0, none⟩) 3 3 ([⟨0, m1⟩, ⟨0, m2⟩, ⟨0, l1⟩] : List S27) rfl (by decide) (by decide) _ (Kd.C_below CS.out HE7.out)).mono ?_
    rintro e y8 ⟨Qd, qd, rfl, hq, hC, hb⟩
    have HE8 := Aside0.mk (below_step HE7.out hb)
    have Cd := Aside0.mk hC
    replace Cc := Aside0.mk (Kd.C_below Cc.out hb)
    have Hd := Aside0.mk hq
    clear hq hC hb
    go_wp2_with fail
    refine (W2.out Qc Qd qc qd Hc.out Hd.out _ Cc.out Cd.out).mono ?_
    rintro e y9 ⟨rfl, hb⟩
    have HE9 := Aside0.mk (below_step HE8.out hb)
    clear hb
    go_wp2_with fail
    refine (R2.out (some ⟨bT, 0, none⟩) (some ⟨bS, 0, none⟩) 3 3 (by decide) (by decide) _ (Kd.C_below CT.out HE9.out) (Kd.C_below CS.out HE9.out)).mono ?_
    rintro e y10 ⟨rfl, hd⟩
    have HE10 := Aside0.mk (below_step HE9.out (Drawn0.below hd))
    clear hd
    go_wp2_with fail
    go_ret
    exact ⟨rfl, below_step HBf.out HE10.out⟩
end Go.Proofs.Ythdjdhcdhaicoaa.P
