-- Written by this session: the walk of LedgerOne.
import Derived.Test.YthdjdhcdhaicoaaLedO
import Derived.Test.YthdjdhcdhaicoaaPx9
import Derived.Test.YthdjdhcdhaicoaaPx17
import Derived.Test.YthdjdhcdhaicoaaPx22
namespace Go.Proofs.Ythdjdhcdhaicoaa.P
open Go.RowKit Go.Proofs.YthdjdhcdhaicoaaW.PrintWords Go.Proofs.YthdjdhcdhaicoaaW.PrintLast Go.Proofs.YthdjdhcdhaicoaaW.PrintMore
set_option linter.unusedVariables false
set_option linter.unusedSimpArgs false
/-- Any rows: true, where their elements are bytes. -/
def antiphonlaw26_LedgerOne.f (l0 : List (List Int)) (a1 a2 : Int) : Option Bool := if (∀ r ∈ l0, ∀ x ∈ r, 0 ≤ x ∧ x < 256) ∧ (0 ≤ a1 ∧ a1 ≤ 255) ∧ (0 ≤ a2 ∧ a2 ≤ 255) then some true else none
theorem one_open {l0 : List (List Int)} {a b : Int} {r : Bool} (h : antiphonlaw26_LedgerOne.f l0 a b = some r) : r = true ∧ (∀ r ∈ l0, Lib.Bytes r) ∧ (0 ≤ a ∧ a ≤ 255) ∧ (0 ≤ b ∧ b ≤ 255) := by
  unfold antiphonlaw26_LedgerOne.f at h
  split at h
  · exact ⟨(Option.some.inj h).symm, by assumption⟩
  · cases h
theorem R_row {α : Type} {d : Kd α} {e base : Nat} {W : World} {xs : List α} {inner : List Value} {ok okp : Nat → Prop} (hrep : Reps (d.M W base okp) d.sz xs inner) (hok : ∀ k, okp k → ok k) (hfresh : ok W.heap.size) (hbase : base ≤ W.heap.size) (hm : xs.length ≤ 9223372036854775807) :
    Kd.R d e (W.alloc (.cells inner.toArray e)) base ok (.slice (some ⟨W.heap.size, 0, none⟩) xs.length xs.length) xs := by
  refine ⟨fun k hk => ?_, inner, ?_, ?_⟩
  · have : W.heap.size = k := by simpa [Value.ownBlock] using hk
    subst this
    exact hfresh
  · have h2 := World.ownsRow_lit (base := base) (e := e) (size := d.sz) W inner.toArray xs.length hbase (by simpa [maxLen] using hm) (by simpa using hrep.1)
    simpa using h2
  · refine hrep.imp_ (fun p c hp => d.M_mono (fun k hk => ⟨hok k hk.1, fun he => ?_⟩) (Kd.M_below (d.M_bound hp) (below_alloc (Below.refl _ _) _)))
    have h3 : k = W.heap.size := by simpa [Value.ownBlock] using he
    have := hk.2.2.1
    omega
abbrev kM (w : World) : Kd (List Int) := Kd.mix 5 (Kd.int .u8) (Kd.int .u8) w
theorem R_none (w W : World) (base : Nat) (h : base ≤ W.heap.size) : Kd.R (kM w) 42 (W.alloc (.cells #[] 42 (0, 0))) base (fun _ => True) (.slice (some ⟨W.heap.size, 0, none⟩) 0 0) [] :=
  R_row (d := kM w) (xs := []) (inner := []) (okp := fun _ => False) ⟨rfl, fun j p hj => by simp at hj⟩ (fun _ h => h.elim) trivial h (by decide)
theorem R_byte (W : World) (base : Nat) (h : base ≤ W.heap.size) : Kd.R (Kd.int .u8) 5 (W.alloc (.cells #[.int .u8 1] 5 (0, 0))) base (fun k => W.heap.size ≤ k) (.slice (some ⟨W.heap.size, 0, none⟩) 1 1) [1] :=
  R_row (d := Kd.int .u8) (xs := [1]) (inner := [.int .u8 1]) (okp := fun _ => False) ⟨rfl, fun j p hj => by
    rcases j with _ | j
    · obtain rfl : 1 = p := by simpa using hj
      rfl
    · simp at hj⟩ (fun _ h => h.elim) (Nat.le_refl _) h (by decide)
theorem mix_C {w W : World} (hb : Below w.heap.size w W) {A : Option Addr} {n : Nat} {xs : List (List Int)} (h : (kM w).C W A n xs) : Kd.C (Kd.slice 5 (Kd.int .u8)) W A n xs := Kd.C_read (d := Kd.slice 5 (Kd.int .u8)) (dm := kM w) rfl (fun x cs hk => Kd.mix_read rfl (fun _ _ h => h) hb hk) h
theorem rem_in_ (a : Int) (n : Int) (h : 0 ≤ a) (hn : 0 ≤ n) : ∃ x : Int, a % (n + 1) = x ∧ 0 ≤ x ∧ x ≤ n := ⟨_, rfl, Int.emod_nonneg _ (by omega), by have := Int.emod_lt_of_pos a (show (0 : Int) < n + 1 by omega); omega⟩
set_option maxHeartbeats 16000000 in
set_option maxRecDepth 100000 in
theorem antiphonlaw26_LedgerOne.calls (A0 : Option Addr) (c0 : Nat) (l0 : List (List Int)) (a1 a2 : Int) (r : Bool) (w : World) (hr0 : Kd.C (Kd.slice 5 (Kd.int .u8)) w A0 l0.length l0) (hc0 : l0.length ≤ c0) (h : antiphonlaw26_LedgerOne.f l0 a1 a2 = some r) :
    Calls Try.prog 7 #[.slice A0 l0.length c0, .int .u8 a1, .int .u8 a2] w fun e w' => e = .returned (.bool r) ∧ Below w.heap.size w w' := by
  obtain ⟨rfl, hy0, hx1, hx2⟩ := one_open h
  clear h
  have HR0 := Aside0.mk hr0
  have HY0 := Aside0.mk hy0
  have HC0 := Aside0.mk hc0
  have HX := Aside0.mk (And.intro hx1 hx2)
  have HAW := Aside0.mk Lib.awake_ok
  clear hr0 hy0 hx1 hx2 hc0
  obtain ⟨s0, hs0⟩ : ∃ b, Lib.smallB l0 = b := ⟨_, rfl⟩
  have HS0 := Aside0.mk ((Lib.small_ok l0 100 (by omega)).trans (congrArg some hs0))
  have HT0 := Aside0.mk hs0
  have HB0 := Aside0.mk (Below.refl w.heap.size w)
  clear hs0
  go_enter Try.func7, Try.ntmps7
  go_wp2_with fail
  refine (antiphonlaw26_awake.calls 60 true _ HAW.out).mono ?_
  rintro e wa ⟨rfl, hBa⟩
  have HBa := Aside0.mk (below_step HB0.out hBa)
  clear hBa HB0
  go_wp2_with fail
  refine (antiphonlaw26_small.calls 100 A0 c0 l0 s0 _ (Kd.C_below HR0.out HBa.out) HC0.out HS0.out).mono ?_
  rintro e wb ⟨rfl, hd⟩
  have HBb := Aside0.mk (below_step HBa.out (Drawn0.below hd))
  clear hd
  cases s0 with
  | false =>
    go_wp2_with fail
    go_ret
    exact ⟨rfl, HBb.out⟩
  | true =>
  have ho0 := Lib.small_OkL HT0.out HY0.out
  have HO0 := Aside0.mk ho0.1
  have hl0 := ho0.2
  have HL0 := Aside0.mk hl0
  clear ho0 HS0 HT0 HAW
  obtain ⟨hx1, hx2⟩ := HX.out
  obtain ⟨x, ex, x0, x1⟩ := rem_in_ a1 (l0.length : Int) hx1.1 (by omega)
  obtain ⟨y, ey, y0, y1⟩ := rem_in_ a2 ((l0.length : Int) - x) hx2.1 (by omega)
  obtain ⟨i0, hi0, _, hsz, _⟩ := info_parts info42_
  have cut1 := cut_mid (P := Try.prog) 22 42 .i64 .i64 Try.underlying22 hi0 1 hsz A0 l0.length c0 x (x + y) x0 (by omega) (by omega) HC0.out
  have g1 := Kd.C_mid (lo := x.toNat) (hi := (x + y).toNat) (c := c0) (Kd.C_below HR0.out HBb.out) (by omega) (by omega) HC0.out
  rw [show (x + y).toNat - x.toNat = ((l0.take (x + y).toNat).drop x.toNat).length by rw [List.length_drop, List.length_take]; omega] at cut1
  have k1 : ((l0.take (x + y).toNat).drop x.toNat).length ≤ c0 - x.toNat := by have := HC0.out; rw [List.length_drop, List.length_take]; omega
  have o1 := (HO0.out.take (x + y).toNat).drop x.toNat
  have hp := Lib.part_sub l0 x.toNat (x + y).toNat (by omega) (by omega)
  rw [show (Kd.slice 5 (Kd.int .u8)).sz = 1 from rfl] at g1
  generalize (l0.take (x + y).toNat).drop x.toNat = m1 at cut1 g1 k1 o1 hp
  generalize (if c0 = x.toNat then A0 else (A0 : Option Addr).map (·.add (x.toNat * 1))) = B1 at cut1 g1
  generalize c0 - x.toNat = d1 at cut1 k1
  obtain ⟨p, ep⟩ : ∃ p, Lib.partL l0 m1 = p := ⟨_, rfl⟩
  have P1 := Aside0.mk ((Lib.part_ok l0 m1 HO0.out o1 5000 (by omega)).trans (congrArg some ep))
  have P2 := Aside0.mk ((Lib.part_ok l0 l0 HO0.out HO0.out 5000 (by omega)).trans (congrArg some (Lib.part_self l0)))
  have oL : Lib.OkL (l0 ++ [[1]]) := ⟨by rw [List.length_append]; show l0.length + 1 ≤ 61; omega, fun r hr => by
    rcases List.mem_append.1 hr with h | h
    · exact HO0.out.2 r h
    · have : r = [1] := by simpa using h
      subst this
      exact ⟨by decide, fun x hx => by have : x = 1 := by simpa using hx
                                       omega⟩⟩
  have P3 := Aside0.mk ((Lib.part_ok l0 (l0 ++ [[1]]) HO0.out oL 5000 (by omega)).trans (congrArg some (Lib.part_long l0 [1])))
  obtain ⟨L, hL⟩ : ∃ L : List (List Int), l0 ++ [[1]] = L := ⟨_, rfl⟩
  rw [hL] at P3
  have HLL := Aside0.mk hL
  clear hL
  rw [ep] at hp
  have G1 := Aside0.mk g1
  have K1 := Aside0.mk k1
  have hpn : decide (p < 0) = false := decide_eq_false (by omega)
  have hpx : decide (x < p) = false := decide_eq_false (by omega)
  clear g1 k1 o1 hp ep oL hi0 hsz HX
  go_wp2_with fail
  refine (ledger_Part.calls 5000 A0 c0 l0 B1 d1 m1 p _ (Kd.C_below HR0.out HBb.out) HC0.out G1.out K1.out P1.out).mono ?_
  rintro e wc ⟨rfl, hd⟩
  have HBc := Aside0.mk (below_step HBb.out (Drawn0.below hd))
  clear hd
  go_wp2_with fail
  refine (ledger_Part.calls 5000 A0 c0 l0 A0 c0 l0 0 _ (Kd.C_below HR0.out HBc.out) HC0.out (Kd.C_below HR0.out HBc.out) HC0.out P2.out).mono ?_
  rintro e wd ⟨rfl, hd⟩
  have HBd := Aside0.mk (below_step HBc.out (Drawn0.below hd))
  clear hd
  go_wp2_with (first
    | ((with_reducible refine gate_builtin (b := .append) (xs := #[.tmp 55, .tmp 56]) rfl ?_); (try (refine gate_guard (by rfl) ?_; dsimp only)); at_builtin; refine Kd.R_append_rows (Rr := fun x cs => (Kd.slice 5 (Kd.int .u8)).K w x cs) (kM w) (w0 := wd) wd.heap.size rfl (.tmp 55) (.tmp 56) 22 42 (.slice none 0 0) 24 rfl Try.underlying22 info42_ rfl (show 0 < 1 by decide) (by omega) (.slice (some ⟨wd.heap.size, 0, none⟩) 0 0) [] l0 A0 l0.length c0 (fun _ => True) (fun _ => False) rfl rfl ?aO ?aR (fun _ _ h => Kd.slice_came h) (fun _ h => h.elim) (fun _ _ => trivial) ?aB ?aS ?aL ?_; (case aO => exact R_none w wd wd.heap.size (Nat.le_refl _)); (case aR => exact ReadsRow.imp_ HR0.out (below_alloc HBd.out _) (fun _ _ hp => hp)); (case aB => exact below_alloc (Below.refl _ _) _); (case aS => exact (below_alloc (Below.refl wd.heap.size wd) _).size); (case aL => have := HL0.out; rw [List.length_nil]; omega); intro v5 w5 ho hb hg hat; have HM5 := Aside0.mk (show Kd.R (kM w) 42 w5 wd.heap.size (fun _ => True) v5 l0 from ho); obtain ⟨A5, c5, rfl⟩ := Kd.R_slice HM5.out; have HB5 := Aside0.mk hb; clear ho hb hg hat)
    | ((with_reducible refine gate_builtin (b := .append) (xs := #[.tmp 57, .tmp 59]) rfl ?_); (try (refine gate_guard (by rfl) ?_; dsimp only)); at_builtin; refine Kd.R_append (kM w) (w0 := wd) (W := w5.alloc (.cells #[.int .u8 1] 5 (0, 0))) wd.heap.size rfl (.tmp 57) (.tmp 59) 22 42 (.slice none 0 0) 24 rfl Try.underlying22 info42_ rfl (show 0 < 1 by decide) (by omega) (.slice A5 l0.length c5) l0 [1] [.slice (some ⟨w5.heap.size, 0, none⟩) 1 1] (fun _ => True) (fun k => w5.heap.size ≤ k) rfl (congrArg (fun n => Value.slice (some ⟨n, 0, none⟩) 1 1) (show w5.heap.size + 1 = (w5.alloc (.cells #[.int .u8 1] 5 (0, 0))).heap.size from (Array.size_push _).symm)) ?aP ?aK (fun _ _ => trivial) ?aO ?aB ?aS ?aL ?_; (case aP => exact Kd.mix_made (R_byte w5 wd.heap.size HB5.out.size)); (case aK => exact fun k hk => ⟨trivial, fun he => by have h1 : w5.heap.size ≤ k := hk; have := Kd.R_lt HM5.out k he.symm; omega⟩); (case aO => exact Kd.R_alloc HM5.out _); (case aB => exact below_alloc HB5.out _); (case aS => exact (below_alloc HB5.out _).size); (case aL => have := HL0.out; omega); intro v6 w6 ho hb hg hat; have HM6 := Aside0.mk (show Kd.R (kM w) 42 w6 wd.heap.size (fun _ => True) v6 L by have h1 := HLL.out; subst h1; exact ho); obtain ⟨A6, c6, rfl⟩ := Kd.R_slice HM6.out; have HB6 := Aside0.mk hb; clear ho hb hg hat)
    | fail)
  have HB6' := Aside0.mk (below_step HBd.out HB6.out)
  obtain ⟨_, hl6, hC6⟩ := Kd.R_reads' HM6.out
  have HC6 := Aside0.mk (And.intro hl6 (mix_C HB6'.out hC6))
  clear hl6 hC6
  refine (ledger_Part.calls 5000 A0 c0 l0 A6 c6 L (-1) _ (Kd.C_below HR0.out HB6'.out) HC0.out HC6.out.2 HC6.out.1 P3.out).mono ?_
  rintro e w7 ⟨rfl, hd⟩
  have HB7 := Aside0.mk (below_step HB6'.out (Drawn0.below hd))
  clear hd HM5 HM6 HB5 HB6 HB6' HC6 P1 P2 P3
  go_wp2_with fail
  go_loopw [10, 11] (fun v10 v11 wr => ∃ (i : Nat), i ≤ l0.length ∧ v11 = .int .i64 i ∧ Aside0 (Kd.R (Kd.fixed k56 w) 56 wr w.heap.size (fun _ => True) v10 (Lib.toldL l0 i)) ∧ Aside0 (Below w.heap.size w wr)) (fun _ v11 _ => l0.length - (intOf v11).toNat)
  case atStart => exact ⟨0, Nat.zero_le _, rfl, ⟨Kd.R_nil _ _ _ _ _⟩, HB7⟩
  case round =>
    obtain ⟨i, hi, rfl, HM, HB⟩ := hrel
    by_cases hlt : i < l0.length
    case pos =>
      have hw1 : wrap64 ((i : Int) + 1) = (i : Int) + 1 := by unfold wrap64; omega
      obtain ⟨ad, A1, c1, hA, hcell0, hl1, hC1⟩ := at_L1 HR0.out (i : Int) (by omega) (by omega)
      subst hA
      obtain ⟨row, hrow⟩ : ∃ row, l0.getD i [] = row := ⟨_, rfl⟩
      have hcell : wr.cell? (ad.add i) = some (.slice A1 row.length c1) := by rw [← hrow]; exact pw_cell_below HB.out hcell0
      have HK := Aside0.mk (show k56.K w (Lib.toldX l0 i) [.int .i64 (i : Int), .int .i64 5, .int .i64 9, .int .i64 4, .int .i64 8, .int .u8 0, .int .u8 0, .int .u8 0, .int .u8 0, .int .u8 0, .int .u8 0, .slice A1 row.length c1, .int .i64 0] by rw [← hrow]; exact k56_mk w (Lib.toldX l0 i) hl1 hC1)
      have HAL := Aside0.mk (show (Lib.toldL l0 i).length ≤ 60 by rw [Lib.told_len]; omega)
      clear hcell0 hl1 hC1 hrow
      go_wp2_with (first
        | ((with_reducible refine gate_builtin (b := .append) (xs := #[.tmp 70, .tmp 78]) rfl ?_); at_builtin; refine Kd.R_append (Kd.fixed k56 w) (w0 := w) w.heap.size rfl (.tmp 70) (.tmp 78) 40 56 (.agg #[.int .i64 0, .int .i64 0, .int .i64 0, .int .i64 0, .int .i64 0, .int .u8 0, .int .u8 0, .int .u8 0, .int .u8 0, .int .u8 0, .int .u8 0, .slice none 0 0, .int .i64 0]) 80 rfl Try.underlying40 info56_ rfl (show 0 < 13 by decide) (by omega) u10 (Lib.toldL l0 i) (Lib.toldX l0 i) [.int .i64 (i : Int), .int .i64 5, .int .i64 9, .int .i64 4, .int .i64 8, .int .u8 0, .int .u8 0, .int .u8 0, .int .u8 0, .int .u8 0, .int .u8 0, .slice A1 row.length c1, .int .i64 0] (fun _ => True) (fun _ => False) rfl rfl ?aP (fun _ hk => hk.elim) ?aF ?aO ?aB ?aS ?aL ?_; (case aP => exact HK.out); (case aF => exact fun _ _ => trivial); (case aO => exact HM.out); (case aB => exact HB.out); (case aS => exact HB.out.size); (case aL => have := HAL.out; omega); intro v8 w8 ho hb hg hat; have HM8 := Aside0.mk ho; have HB8 := Aside0.mk hb; clear ho hb hg hat)
        | fail)
      exact ⟨⟨i + 1, by omega, by go_num, ⟨by rw [Lib.told_next]; exact HM8.out⟩, HB8⟩, meas hlt⟩
    case neg =>
      obtain rfl : i = l0.length := by omega
      have hF := Lib.told_f l0 HO0.out
      have hN := Lib.count_ok (Lib.toldL l0 l0.length) (by rw [Lib.told_len]; omega) 9 4 3000 (by omega)
      rw [Lib.told_count] at hN
      have hcase : (l0 = [] ∧ runsS (Lib.toldL l0 l0.length) 4 8 0 0 0 0 0 0 = []) ∨ (l0 ≠ [] ∧ runsS (Lib.toldL l0 l0.length) 4 8 0 0 0 0 0 0 = [⟨5, l0⟩]) := by
        by_cases hz : l0 = []
        · exact .inl ⟨hz, by rw [hz]; rfl⟩
        · exact .inr ⟨hz, Lib.told_runs l0 hz⟩
      have hm := HM.out
      generalize runsS (Lib.toldL l0 l0.length) 4 8 0 0 0 0 0 0 = rr at hF hcase
      generalize Lib.toldL l0 l0.length = T at hF hN hm
      obtain ⟨At, ct, hv, hct, hCt⟩ := Kd.R_reads hm
      have HF := Aside0.mk hF
      have HN := Aside0.mk hN
      have HCt := Aside0.mk (And.intro hct (C_came hCt HB.out))
      have HCA := Aside0.mk hcase
      clear hF hN hm hct hCt hcase HM hi hlt
      subst hv
      go_wp2_with fail
      refine (ledger_Runs.calls At ct T 4 8 0 0 0 0 0 0 rr _ HCt.out.2 HCt.out.1 HF.out).mono ?_
      rintro e w8 ⟨v8, rfl, hR, hb⟩
      obtain ⟨Ar, cr, rfl, hcr, hCr⟩ := Kd.R_reads hR
      have HB8 := Aside0.mk (below_step HB.out hb)
      have HCt8 := Aside0.mk (Kd.C_below HCt.out.2 hb)
      clear hR hb
      rcases HCA.out with ⟨hz, rfl⟩ | ⟨hz, rfl⟩
      · have e0 : l0.length = 0 := by rw [hz]; rfl
        clear hz HCA hcr hCr
        go_wp2_with fail
        go_ret
        exact ⟨rfl, HB8.out⟩
      · have hlz : l0.length ≠ 0 := fun h => hz (List.length_eq_zero_iff.1 h)
        have hne : ((l0.length : Int) == 0) = false := beq_eq_false_iff_ne.mpr (by omega)
        have hne' : (l0.length == 0) = false := beq_eq_false_iff_ne.mpr hlz
        obtain ⟨ad, Ai, ci, hA, hc0, hc1, hli, hCi⟩ := at_T47 hCr 0 (by decide) (show (0 : Int) < 1 by decide)
        subst hA
        have hc0 : w8.cell? ad = some (.int .i64 5) := hc0
        have hc1 : w8.cell? ⟨ad.block, ad.off + 1, none⟩ = some (.slice Ai l0.length ci) := hc1
        have HLi := Aside0.mk (show l0.length ≤ ci from hli)
        have HCi := Aside0.mk (show Kd.C (Kd.slice 5 (Kd.int .u8)) w8 Ai l0.length l0 from hCi)
        have HCr := Aside0.mk (And.intro (show 1 ≤ cr from hcr) (show Kd.C k47 w8 (some ad) 1 [⟨5, l0⟩] from hCr))
        have oR : Lib.OkR (([⟨5, l0⟩] : List S47).map S47.f1) := ⟨(show 1 ≤ 1000 by decide), fun q hq => by rw [show q = l0 by simpa using hq]; exact HO0.out⟩
        have hW := Lib.within_ok [⟨5, l0⟩] [⟨5, l0⟩] oR oR (show 1 ≤ 70 by decide) (show 1 ≤ 70 by decide) 20000 (by omega)
        have HW := Aside0.mk (hW.trans (congrArg some (Lib.within_self l0)))
        have HRW := Aside0.mk (Lib.rows_same l0 (by omega) (fun r hr => (HO0.out.2 r hr).1) 3000 (by omega))
        clear hcr hCr hli hCi oR hW HCA hz
        go_wp2_with fail
        refine (antiphonref1_Rows.calls 3000 Ai ci l0 A0 c0 l0 true _ HCi.out HLi.out (Kd.C_below HR0.out HB8.out) HC0.out HRW.out).mono ?_
        rintro e w9 ⟨rfl, hd⟩
        have HE9 := Aside0.mk (Drawn0.below hd)
        clear hd
        go_wp2_with fail
        refine (ledger_Count.calls 3000 At ct T 9 4 (l0.length : Int) _ (Kd.C_below HCt8.out HE9.out) HCt.out.1 HN.out).mono ?_
        rintro e w10 ⟨rfl, hb⟩
        have HE10 := Aside0.mk (below_step HE9.out hb)
        clear hb
        go_wp2_with fail
        refine (ledger_Within.calls 20000 (some ad) cr [⟨5, l0⟩] (some ad) cr [⟨5, l0⟩] true _ (Kd.C_below HCr.out.2 HE10.out) HCr.out.1 (Kd.C_below HCr.out.2 HE10.out) HCr.out.1 HW.out).mono ?_
        rintro e w11 ⟨rfl, hb⟩
        have HE11 := Aside0.mk (below_step HE10.out hb)
        clear hb
        go_wp2_with fail
        go_ret
        exact ⟨rfl, below_step HB8.out HE11.out⟩
end Go.Proofs.Ythdjdhcdhaicoaa.P
