-- Written by this session: the walk of OctetReads.
import Derived.Test.YtngahjgbeekldaaRm
import Derived.Deep.QuietTactic
import Derived.BigQuiet
namespace Go.Proofs.Ytngahjgbeekldaa.P
open Go.RowKit Go.Proofs.YtngahjgbeekldaaW.PrintWords Go.Proofs.YtngahjgbeekldaaW.PrintLast Go.Proofs.YtngahjgbeekldaaW.PrintMore
set_option linter.unusedVariables false
set_option linter.unusedSimpArgs false
theorem at_deed {w : World} {A : Option Addr} {n : Nat} {xs : List (Int × Int)} (h : Kd.C (Kd.pair (Kd.int .i64) (Kd.int .i64)) w A n xs) (i : Int) (h0 : 0 ≤ i) (h1 : i < n) : ∃ ad d m, A = some ad ∧ w.cell? (ad.add (i.toNat * 2)) = some (.int .i64 d) ∧ w.cell? ⟨(ad.add (i.toNat * 2)).block, (ad.add (i.toNat * 2)).off + 1, none⟩ = some (.int .i64 m) := by
  obtain ⟨ad, c, e, _, hK, hc0⟩ := Kd.C_get h (0, 0) i h0 h1
  have hc : ∀ j u, c[j]? = some u → w.cell? (ad.add (i.toNat * 2 + j)) = some u := hc0
  obtain ⟨c1, c2, rfl, rfl, rfl⟩ := hK
  exact ⟨ad, _, _, e, hc 0 _ rfl, by rw [← add_field _ _ 1 (by omega)]; exact hc 1 _ rfl⟩
theorem IsRm.cells {w0 W : World} {g : Nat} {l : List Int} {b : Bool} (h : IsRm w0 W g l b) : ∃ A c, W.cell? ⟨g, 0, none⟩ = some (.slice A l.length c) ∧ W.cell? ⟨g, 1, none⟩ = some (.bool b) := by
  obtain ⟨A0, c0, hb, h2⟩ := h
  exact ⟨A0, c0, (blk_cell hb 0).trans rfl, (blk_cell hb 1).trans rfl⟩
theorem IsRd.ge {w0 W : World} {g : Nat} {l : List Int} {b : Bool} (h : IsRd w0 W g l b) : w0.heap.size ≤ g := by
  obtain ⟨A0, c0, hb, hg, _⟩ := h; exact hg
theorem IsRm.ge {w0 W : World} {g : Nat} {l : List Int} {b : Bool} (h : IsRm w0 W g l b) : w0.heap.size ≤ g := by
  obtain ⟨A0, c0, hb, hg, _⟩ := h; exact hg
theorem below_own {w W W1 : World} {g : Nat} (h : Below w.heap.size w W) (hg : W.grownBy W1 (some g)) (hge : w.heap.size ≤ g) : Below w.heap.size w W1 := h.grown hg h.size (fun k hk => by cases hk; exact hge)
theorem bytes_drop {l : List Int} (h : Lib.Bytes l) (n : Nat) : Lib.Bytes (l.drop n) := fun x hx => h x (List.mem_of_mem_drop hx)
theorem bytes_take {l : List Int} (h : Lib.Bytes l) (n : Nat) : Lib.Bytes (l.take n) := fun x hx => h x (List.mem_of_mem_take hx)
theorem same_self (xs : List Int) (h : xs.length ≤ 500) : antiphonref1_Same.f (xs.length + 1 + 0) xs xs = some true := by rw [Lib.same_ref xs xs (by omega) 0]; simp
theorem fail_q {w1 w5 : World} {g : Nat} {y : List Int} {b : Bool} (h : IsRd w1 w5 g y b) (n : Nat) : Calls Try.prog 19 #[.pointer (some ⟨g, 0, none⟩)] (w5.drewN n) fun e w'' => e = .returned (.bool b) ∧ ∃ m, w'' = w5.drewN m := (octet_Reader_Fail.rd w1 _ g y b (h.drewN n)).mono fun e w' h => ⟨h.1, n, h.2.symm⟩
theorem left_q {w1 w5 : World} {g : Nat} {y : List Int} {b : Bool} (h : IsRd w1 w5 g y b) (n : Nat) : Calls Try.prog 20 #[.pointer (some ⟨g, 0, none⟩)] (w5.drewN n) fun e w'' => e = .returned (.int .i64 y.length) ∧ ∃ m, w'' = w5.drewN m := (octet_Reader_Left.rd w1 _ g y b (h.drewN n)).mono fun e w' h => ⟨h.1, n, h.2.symm⟩
def antiphonlaw1_OctetReads.f (l0 : List Int) (l1 : List (Int × Int)) : Option Bool := if ∀ x ∈ l0, 0 ≤ x ∧ x < 256 then some true else none
set_option maxHeartbeats 8000000 in
set_option maxRecDepth 100000 in
theorem antiphonlaw1_OctetReads.calls (A0 : Option Addr) (c0 : Nat) (l0 : List Int) (A1 : Option Addr) (c1 : Nat) (l1 : List (Int × Int)) (r : Bool) (w : World) (hr0 : Kd.C (Kd.int .u8) w A0 l0.length l0) (hc0 : l0.length ≤ c0) (hr1 : Kd.C (Kd.pair (Kd.int .i64) (Kd.int .i64)) w A1 l1.length l1) (hc1 : l1.length ≤ c1) (h : antiphonlaw1_OctetReads.f l0 l1 = some r) :
    Calls Try.prog 7 #[.slice A0 l0.length c0, .slice A1 l1.length c1] w fun e w' => e = .returned (.bool r) ∧ Below w.heap.size w w' := by
  unfold antiphonlaw1_OctetReads.f at h
  split at h
  case isFalse => cases h
  case isTrue hbd =>
  obtain rfl := Option.some.inj h
  clear h
  have HBD := Aside0.mk (show Lib.Bytes l0 from hbd)
  have HR0 := Aside0.mk hr0
  have HR1 := Aside0.mk hr1
  have HC0 := Aside0.mk hc0
  clear hr0 hr1 hc0 hbd
  have A1_ := Aside0.mk (show antiphonlaw1_awake.f = some true from rfl)
  go_enter Try.func7, Try.ntmps7
  go_wp2_with fail
  refine (antiphonlaw1_awake.calls true _ A1_.out).mono ?_
  rintro e wA ⟨rfl, hBA⟩
  have HBA := Aside0.mk hBA
  clear hBA
  by_cases hl0 : l0.length ≤ 500
  case neg =>
    have hl0' : decide (500 < l0.length) = true := decide_eq_true (by omega)
    go_wp2_with fail
    go_ret
    exact ⟨rfl, HBA.out⟩
  have hl0' : decide (500 < l0.length) = false := decide_eq_false (by omega)
  by_cases hl1 : l1.length ≤ 100
  case neg =>
    have hl1' : decide (100 < l1.length) = true := decide_eq_true (by omega)
    go_wp2_with fail
    go_ret
    exact ⟨rfl, HBA.out⟩
  have hl1' : decide (100 < l1.length) = false := decide_eq_false (by omega)
  go_wp2_with fail
  refine (octet_New.calls _ _ l0 _ (Kd.C_below HR0.out HBA.out) HC0.out (by omega)).mono ?_
  rintro e w2 ⟨g, w1, rfl, hB, hB1, hI⟩
  have HBW := Aside0.mk (below_step HBA.out hB)
  have HR1' := Aside0.mk (Kd.C_below HR1.out HBW.out)
  have HGG := Aside0.mk (show g ≠ w2.heap.size from Nat.ne_of_lt hI.lt)
  have HGE := Aside0.mk hI.ge
  have HME := Aside0.mk hB1.size
  have HI := Aside0.mk (hI.below (below_alloc (Below.refl _ _) (.cells #[.slice A0 l0.length c0, .bool false] 38)))
  have HM := Aside0.mk (show IsRm w1 (w2.alloc (.cells #[.slice A0 l0.length c0, .bool false] 38)) w2.heap.size l0 false from ⟨A0, c0, blk_new w2 _, hB1.size, Kd.C_below HR0.out HBW.out, HC0.out⟩)
  have HB := Aside0.mk (below_alloc hB1 (.cells #[.slice A0 l0.length c0, .bool false] 38))
  have HLE := Aside0.mk hl0
  clear hB hB1 hI HR0 HR1 hl0 hl0'
  go_wp2_with fail
  go_loopw [7] (fun v7 wr => ∃ (j : Nat) (y : List Int) (b : Bool), j ≤ l1.length ∧ v7 = .int .i64 j ∧ Aside0 (IsRd w1 wr g y b) ∧ Aside0 (IsRm w1 wr w2.heap.size y b) ∧ Aside0 (Below w1.heap.size w1 wr) ∧ Aside0 (y.length ≤ 500 ∧ Lib.Bytes y)) (fun v7 _ => l1.length - (intOf v7).toNat)
  case atStart => exact ⟨0, l0, false, Nat.zero_le _, rfl, HI, HM, HB, ⟨HLE.out, HBD.out⟩⟩
  case round =>
    clear HI HM HB HLE HBD
    obtain ⟨j, y, b, hj, rfl, HI, HM, HB, HY⟩ := hrel
    by_cases hlt : j < l1.length
    case neg =>
      obtain rfl : j = l1.length := by omega
      go_wp2_with fail
      go_ret
      exact ⟨rfl, below_step HBW.out HB.out⟩
    obtain ⟨ad, dd, nn, ead, hq0, hq1⟩ := at_deed HR1'.out j (by omega) (by omega)
    cases ead
    rw [Int.toNat_natCast] at hq0 hq1
    have HQ1 := Aside0.mk hq1
    have q0 := pw_cell_below HB.out hq0
    have q1 := pw_cell_below HB.out hq1
    clear hq0 hq1
    by_cases h2 : dd ≤ 2
    · have e2 : decide (dd ≤ 2) = true := decide_eq_true h2
      clear h2
      by_cases hy : b = false ∧ 1 ≤ nn ∧ nn ≤ 7 ∧ nn ≤ y.length
      · obtain ⟨rfl, n1, n7, nl⟩ := hy
        have HN := Aside0.mk (And.intro n1 (And.intro n7 nl))
        have HG1 := Aside0.mk (Lib.get_seat (y.take nn.toNat) (bytes_take HY.out.2 _) 190)
        have HG2 := Aside0.mk (Lib.get_ref (y.take nn.toNat) (bytes_take HY.out.2 _) 189)
        generalize Lib.getL (y.take nn.toNat) = gv at HG1 HG2
        clear n1 n7 nl
        go_wp2_with fail
        refine (octet_Reader_Num.yes _ w1 _ g y nn gv HI.out HB.out HN.out.1 HN.out.2.1 HN.out.2.2 (by have := HY.out.1; omega) HG1.out).mono ?_
        rintro e w4 ⟨rfl, hI4, hg4⟩
        have HI4 := Aside0.mk hI4
        have HM4 := Aside0.mk (HM.out.only hg4 (fun e => HGG.out (by injection e with e; exact e.symm)))
        have HB4 := Aside0.mk (below_own HB.out hg4 HGE.out)
        have q1 := pw_cell_below HB4.out HQ1.out
        obtain ⟨Am, cm, m0, m1⟩ := HM4.out.cells
        clear hI4 hg4 HI HM HB
        go_wp2_with fail
        refine (rm_Num.yes _ w1 _ w2.heap.size y nn gv HM4.out HB4.out HN.out.1 HN.out.2.1 HN.out.2.2 HG2.out).mono ?_
        rintro e w5 ⟨rfl, hM5, hg5⟩
        have HY5 := Aside0.mk (show (y.drop nn.toNat).length ≤ 500 ∧ Lib.Bytes (y.drop nn.toNat) from ⟨by have := HY.out.1; rw [List.length_drop]; omega, bytes_drop HY.out.2 _⟩)
        clear HG1 HG2 HN HY
        generalize y.drop nn.toNat = y5 at hM5 HI4 HY5
        have HI5 := Aside0.mk (HI4.out.only_ hg5 (fun e => HGG.out (by injection e)))
        have HM5 := Aside0.mk hM5
        have HB5 := Aside0.mk (below_own HB4.out hg5 HME.out)
        clear hM5 hg5 HI4 HM4 HB4 m0 m1 q1
        obtain ⟨Am, cm, m0, m1⟩ := HM5.out.cells
        go_wp2_with fail
        go_quiet (first | exact fail_q HI5.out _ | exact left_q HI5.out _)
        go_wp2_with fail
        exact ⟨⟨j + 1, y5, false, by omega, by go_num, ⟨HI5.out.drewN _⟩, ⟨HM5.out.drewN _⟩, ⟨pw_below_drewN HB5.out _⟩, HY5⟩, by simp [intOf]; omega⟩
      · have HN := Aside0.mk (show nn < 1 ∨ 7 < nn ∨ b = true ∨ (y.length : Int) < nn by
          rcases Classical.em (nn < 1) with h | h; · exact .inl h
          rcases Classical.em (7 < nn) with h' | h'; · exact .inr (.inl h')
          cases b; · exact .inr (.inr (.inr (by simp at hy; omega)))
          · exact .inr (.inr (.inl rfl)))
        clear hy
        go_wp2_with fail
        refine (octet_Reader_Num.no w1 _ g y b nn HI.out HB.out HN.out).mono ?_
        rintro e w4 ⟨rfl, hI4, hg4⟩
        have HI4 := Aside0.mk hI4
        have HM4 := Aside0.mk (HM.out.only hg4 (fun e => HGG.out (by injection e with e; exact e.symm)))
        have HB4 := Aside0.mk (below_own HB.out hg4 HGE.out)
        have q1 := pw_cell_below HB4.out HQ1.out
        obtain ⟨Am, cm, m0, m1⟩ := HM4.out.cells
        clear hI4 hg4 HI HM HB
        go_wp2_with fail
        refine (rm_Num.no w1 _ w2.heap.size y b nn HM4.out HN.out).mono ?_
        rintro e w5 ⟨rfl, hM5, hg5⟩
        have HY5 := HY
        clear HN HY
        have HI5 := Aside0.mk (HI4.out.only_ hg5 (fun e => HGG.out (by injection e)))
        have HM5 := Aside0.mk hM5
        have HB5 := Aside0.mk (below_own HB4.out hg5 HME.out)
        clear hM5 hg5 HI4 HM4 HB4 m0 m1 q1
        obtain ⟨Am, cm, m0, m1⟩ := HM5.out.cells
        go_wp2_with fail
        go_quiet (first | exact fail_q HI5.out _ | exact left_q HI5.out _)
        go_wp2_with fail
        exact ⟨⟨j + 1, y, true, by omega, by go_num, ⟨HI5.out.drewN _⟩, ⟨HM5.out.drewN _⟩, ⟨pw_below_drewN HB5.out _⟩, HY5⟩, by simp [intOf]; omega⟩
    · have e2 : decide (dd ≤ 2) = false := decide_eq_false h2
      clear h2
      by_cases h4 : dd ≤ 4
      · have e4 : decide (dd ≤ 4) = true := decide_eq_true h4
        clear h4
        by_cases hy : b = false ∧ 0 ≤ nn ∧ nn ≤ y.length
        · obtain ⟨rfl, n0, nl⟩ := hy
          have HN := Aside0.mk (And.intro n0 nl)
          have HS := Aside0.mk (same_self (y.take nn.toNat) (by have := HY.out.1; rw [List.length_take]; omega))
          clear n0 nl
          go_wp2_with fail
          refine (octet_Reader_Raw.yes w1 _ g y nn HI.out HB.out HN.out.1 HN.out.2 (by have := HY.out.1; omega)).mono ?_
          rintro e w4 ⟨v4, rfl, hR4, hI4, hg4⟩
          obtain ⟨x5, hx5⟩ : ∃ x, y.take nn.toNat = x := ⟨_, rfl⟩
          rw [hx5] at hR4 HS
          have HX5 := Aside0.mk hx5
          clear hx5
          obtain ⟨A4, c4, rfl⟩ := Kd.R_slice hR4
          have HR4 := Aside0.mk hR4
          clear hR4
          have HI4 := Aside0.mk hI4
          have HM4 := Aside0.mk (HM.out.only hg4 (fun e => HGG.out (by injection e with e; exact e.symm)))
          have HB4 := Aside0.mk (below_own HB.out hg4 HGE.out)
          have q1 := pw_cell_below HB4.out HQ1.out
          obtain ⟨Am, cm, m0, m1⟩ := HM4.out.cells
          clear hI4 hg4 HI HM HB
          go_wp2_with fail
          refine (rm_Raw.yes w1 _ w2.heap.size y nn HM4.out HB4.out HN.out.1 HN.out.2 (by have := HY.out.1; omega)).mono ?_
          rintro e w5 ⟨v5, rfl, hR5, hM5, hg5⟩
          rw [HX5.out] at hR5
          obtain ⟨A5, c5, rfl, hc5, hC5⟩ := Kd.R_reads hR5
          obtain ⟨_, hc4, hC4⟩ := Kd.R_reads' (own_rawm HM4.out HR4.out hg5)
          have HCC := Aside0.mk (And.intro hC4 (And.intro hc4 (And.intro hC5 hc5)))
          have HY5 := Aside0.mk (show (y.drop nn.toNat).length ≤ 500 ∧ Lib.Bytes (y.drop nn.toNat) from ⟨by have := HY.out.1; rw [List.length_drop]; omega, bytes_drop HY.out.2 _⟩)
          clear HN HY hR5 hC5 hc5 hc4 hC4 HR4
          generalize y.drop nn.toNat = y5 at hM5 HI4 HY5
          clear HX5
          have HI5 := Aside0.mk (HI4.out.only_ hg5 (fun e => HGG.out (by injection e)))
          have HM5 := Aside0.mk hM5
          have HB5 := Aside0.mk (below_own HB4.out hg5 HME.out)
          clear hM5 hg5 HI4 HM4 HB4 m0 m1 q1
          go_wp2_with fail
          refine (antiphonref1_Same.calls _ A4 c4 x5 A5 c5 x5 true _ HCC.out.1 HCC.out.2.1 HCC.out.2.2.1 HCC.out.2.2.2 HS.out).mono ?_
          rintro e w6 ⟨rfl, hd⟩
          replace HI5 := Aside0.mk (HI5.out.below (Drawn0.below hd))
          replace HM5 := Aside0.mk (HM5.out.below (Drawn0.below hd))
          replace HB5 := Aside0.mk (below_step HB5.out (Drawn0.below hd))
          clear hd
          obtain ⟨Am, cm, m0, m1⟩ := HM5.out.cells
          go_wp2_with fail
          go_quiet (first | exact fail_q HI5.out _ | exact left_q HI5.out _)
          go_wp2_with fail
          exact ⟨⟨j + 1, y5, false, by omega, by go_num, ⟨HI5.out.drewN _⟩, ⟨HM5.out.drewN _⟩, ⟨pw_below_drewN HB5.out _⟩, HY5⟩, by simp [intOf]; omega⟩
        · have HN := Aside0.mk (show b = true ∨ nn < 0 ∨ (y.length : Int) < nn by
            rcases Classical.em (nn < 0) with h | h; · exact .inr (.inl h)
            cases b; · exact .inr (.inr (by simp at hy; omega))
            · exact .inl rfl)
          clear hy
          go_wp2_with fail
          refine (octet_Reader_Raw.no w1 _ g y b nn HI.out HN.out).mono ?_
          rintro e w4 ⟨rfl, hI4, hg4⟩
          have HI4 := Aside0.mk hI4
          have HM4 := Aside0.mk (HM.out.only hg4 (fun e => HGG.out (by injection e with e; exact e.symm)))
          have HB4 := Aside0.mk (below_own HB.out hg4 HGE.out)
          have q1 := pw_cell_below HB4.out HQ1.out
          obtain ⟨Am, cm, m0, m1⟩ := HM4.out.cells
          clear hI4 hg4 HI HM HB
          go_wp2_with fail
          refine (rm_Raw.no w1 _ w2.heap.size y b nn HM4.out HN.out).mono ?_
          rintro e w5 ⟨rfl, hM5, hg5⟩
          have HY5 := HY
          clear HN HY
          have HI5 := Aside0.mk (HI4.out.only_ hg5 (fun e => HGG.out (by injection e)))
          have HM5 := Aside0.mk hM5
          have HB5 := Aside0.mk (below_own HB4.out hg5 HME.out)
          clear hM5 hg5 HI4 HM4 HB4 m0 m1 q1
          go_wp2_with fail
          refine (antiphonref1_Same.calls 5 none 0 [] none 0 [] true _ (Kd.C_nil _ _) (by decide) (Kd.C_nil _ _) (by decide) rfl).mono ?_
          rintro e w6 ⟨rfl, hd⟩
          replace HI5 := Aside0.mk (HI5.out.below (Drawn0.below hd))
          replace HM5 := Aside0.mk (HM5.out.below (Drawn0.below hd))
          replace HB5 := Aside0.mk (below_step HB5.out (Drawn0.below hd))
          clear hd
          obtain ⟨Am, cm, m0, m1⟩ := HM5.out.cells
          go_wp2_with fail
          go_quiet (first | exact fail_q HI5.out _ | exact left_q HI5.out _)
          go_wp2_with fail
          exact ⟨⟨j + 1, y, true, by omega, by go_num, ⟨HI5.out.drewN _⟩, ⟨HM5.out.drewN _⟩, ⟨pw_below_drewN HB5.out _⟩, HY5⟩, by simp [intOf]; omega⟩
      · have e4 : decide (dd ≤ 4) = false := decide_eq_false h4
        clear h4
        cases b with
        | false =>
          have HS := Aside0.mk (same_self y HY.out.1)
          go_wp2_with fail
          refine (octet_Reader_Rest.yes w1 _ g y HI.out HB.out (by have := HY.out.1; omega)).mono ?_
          rintro e w4 ⟨v4, rfl, hR4, hI4, hg4⟩
          obtain ⟨A4, c4, rfl⟩ := Kd.R_slice hR4
          have HR4 := Aside0.mk hR4
          clear hR4
          have HI4 := Aside0.mk hI4
          have HM4 := Aside0.mk (HM.out.only hg4 (fun e => HGG.out (by injection e with e; exact e.symm)))
          have HB4 := Aside0.mk (below_own HB.out hg4 HGE.out)
          have q1 := pw_cell_below HB4.out HQ1.out
          obtain ⟨Am, cm, m0, m1⟩ := HM4.out.cells
          clear hI4 hg4 HI HM HB
          go_wp2_with fail
          refine (rm_Raw.yes w1 _ w2.heap.size y y.length HM4.out HB4.out (by omega) (Int.le_refl _) (by have := HY.out.1; omega)).mono ?_
          rintro e w5 ⟨v5, rfl, hR5, hM5, hg5⟩
          rw [Int.toNat_natCast, List.take_length] at hR5
          rw [Int.toNat_natCast, List.drop_length] at hM5
          obtain ⟨A5, c5, rfl, hc5, hC5⟩ := Kd.R_reads hR5
          obtain ⟨_, hc4, hC4⟩ := Kd.R_reads' (own_rawm HM4.out HR4.out hg5)
          have HCC := Aside0.mk (And.intro hC4 (And.intro hc4 (And.intro hC5 hc5)))
          have HY5 := Aside0.mk (show ([] : List Int).length ≤ 500 ∧ Lib.Bytes [] from ⟨by decide, fun x hx => by cases hx⟩)
          clear HY hR5 hC5 hc5 hc4 hC4 HR4
          have HI5 := Aside0.mk (HI4.out.only_ hg5 (fun e => HGG.out (by injection e)))
          have HM5 := Aside0.mk hM5
          have HB5 := Aside0.mk (below_own HB4.out hg5 HME.out)
          clear hM5 hg5 HI4 HM4 HB4 m0 m1 q1
          go_wp2_with fail
          refine (antiphonref1_Same.calls _ A4 c4 y A5 c5 y true _ HCC.out.1 HCC.out.2.1 HCC.out.2.2.1 HCC.out.2.2.2 HS.out).mono ?_
          rintro e w6 ⟨rfl, hd⟩
          replace HI5 := Aside0.mk (HI5.out.below (Drawn0.below hd))
          replace HM5 := Aside0.mk (HM5.out.below (Drawn0.below hd))
          replace HB5 := Aside0.mk (below_step HB5.out (Drawn0.below hd))
          clear hd
          obtain ⟨Am, cm, m0, m1⟩ := HM5.out.cells
          go_wp2_with fail
          go_quiet (first | exact fail_q HI5.out _ | exact left_q HI5.out _)
          go_wp2_with fail
          exact ⟨⟨j + 1, [], false, by omega, by go_num, ⟨HI5.out.drewN _⟩, ⟨HM5.out.drewN _⟩, ⟨pw_below_drewN HB5.out _⟩, HY5⟩, by simp [intOf]; omega⟩
        | true =>
          go_wp2_with fail
          refine (octet_Reader_Rest.no w1 _ g y HI.out).mono ?_
          rintro e w4 ⟨rfl, hI4, hg4⟩
          have HI4 := Aside0.mk hI4
          have HM4 := Aside0.mk (HM.out.only hg4 (fun e => HGG.out (by injection e with e; exact e.symm)))
          have HB4 := Aside0.mk (below_own HB.out hg4 HGE.out)
          have q1 := pw_cell_below HB4.out HQ1.out
          obtain ⟨Am, cm, m0, m1⟩ := HM4.out.cells
          clear hI4 hg4 HI HM HB
          go_wp2_with fail
          refine (rm_Raw.no w1 _ w2.heap.size y true y.length HM4.out (.inl rfl)).mono ?_
          rintro e w5 ⟨rfl, hM5, hg5⟩
          have HY5 := HY
          clear HY
          have HI5 := Aside0.mk (HI4.out.only_ hg5 (fun e => HGG.out (by injection e)))
          have HM5 := Aside0.mk hM5
          have HB5 := Aside0.mk (below_own HB4.out hg5 HME.out)
          clear hM5 hg5 HI4 HM4 HB4 m0 m1 q1
          go_wp2_with fail
          refine (antiphonref1_Same.calls 5 none 0 [] none 0 [] true _ (Kd.C_nil _ _) (by decide) (Kd.C_nil _ _) (by decide) rfl).mono ?_
          rintro e w6 ⟨rfl, hd⟩
          replace HI5 := Aside0.mk (HI5.out.below (Drawn0.below hd))
          replace HM5 := Aside0.mk (HM5.out.below (Drawn0.below hd))
          replace HB5 := Aside0.mk (below_step HB5.out (Drawn0.below hd))
          clear hd
          obtain ⟨Am, cm, m0, m1⟩ := HM5.out.cells
          go_wp2_with fail
          go_quiet (first | exact fail_q HI5.out _ | exact left_q HI5.out _)
          go_wp2_with fail
          exact ⟨⟨j + 1, y, true, by omega, by go_num, ⟨HI5.out.drewN _⟩, ⟨HM5.out.drewN _⟩, ⟨pw_below_drewN HB5.out _⟩, HY5⟩, by simp [intOf]; omega⟩
end Go.Proofs.Ytngahjgbeekldaa.P
