-- Laid by a program of this session (wip/print2).
import Derived.Test.YtngahjgbeekldaaPx0
import Derived.Test.YtngahjgbeekldaaPx11
import Derived.Test.YtngahjgbeekldaaPx13
import Derived.Test.YtngahjgbeekldaaPx17
import Derived.Test.YtngahjgbeekldaaPx18
import Derived.Test.YtngahjgbeekldaaPx19
import Derived.Test.YtngahjgbeekldaaPx20
import Derived.Test.YtngahjgbeekldaaPx21
import Derived.Test.YtngahjgbeekldaaPx24
namespace Go.Proofs.Ytngahjgbeekldaa.P
open Go.RowKit Go.Proofs.YtngahjgbeekldaaW.PrintWords Go.Proofs.YtngahjgbeekldaaW.PrintLast Go.Proofs.YtngahjgbeekldaaW.PrintMore
attribute [local go_sem] max2_int min2_int max_two min_two max_three min_three max_four min_four   -- for this text's walks alone
set_option linter.unusedVariables false
set_option linter.unusedSimpArgs false

/-! ### antiphonlaw1_OctetParts: function 8 -/
def partsOk (l : List Int) : Bool := l.all fun x => decide (0 ≤ x) && decide (x ≤ 255)
/-- Bytes taken in parts: true. -/
def antiphonlaw1_OctetParts.f (k : Nat) (l0 l1 : List Int) : Option Bool := if partsOk l1 = true ∧ antiphonref1_Same.f k l0 l0 = some true then some true else none
theorem IsRd.only {w0 W W1 : World} {g : Nat} {row : Option Nat} {l : List Int} {b : Bool} (h : IsRd w0 W g l b) (hw : W.grownBy W1 row) (hne : some g ≠ row) : IsRd w0 W1 g l b := by
  obtain ⟨A0, c0, hb, h2⟩ := h
  exact ⟨A0, c0, (hw.block g (blk_lt hb) hne).trans hb, h2⟩
theorem IsRd.typed {w0 W : World} {g : Nat} {l : List Int} {b : Bool} (h : IsRd w0 W g l b) {base : Nat} {v : Value} {xs : List Int} (hR : Kd.R (Kd.int .u8) 5 W base (fun _ => True) v xs) : some g ≠ v.ownBlock := by
  obtain ⟨A0, c0, hb, h2⟩ := h
  exact Kd.R_ne hR hb (by decide)
theorem own_raw {w0 W W1 : World} {g : Nat} {l : List Int} {b : Bool} (h : IsRd w0 W g l b) {base : Nat} {v : Value} {xs : List Int} (hR : Kd.R (Kd.int .u8) 5 W base (fun _ => True) v xs) (hw : W.grownBy W1 (some g)) : Kd.R (Kd.int .u8) 5 W1 base (fun _ => True) v xs := by
  obtain ⟨A0, c0, hb, h2⟩ := h
  refine Kd.R_mono (Kd.R_grown (Kd.R_types hR hb (by intro q hq; simp [Kd.int, Kd.scalar] at hq; rw [hq]; decide)) hw ?_) (fun _ _ => trivial)
  intro k hk e
  exact hk.2 (by injection e)
set_option maxHeartbeats 4000000 in
set_option maxRecDepth 100000 in
theorem antiphonlaw1_OctetParts.calls (k : Nat) (A0 : Option Addr) (c0 : Nat) (l0 : List Int) (A1 : Option Addr) (c1 : Nat) (l1 : List Int) (r : Bool) (w : World) (hr0 : Kd.C (Kd.int .u8) w A0 l0.length l0) (hc0 : l0.length ≤ c0) (hr1 : Kd.C (Kd.int .u8) w A1 l1.length l1) (hc1 : l1.length ≤ c1) (h : antiphonlaw1_OctetParts.f k l0 l1 = some r) :
    Calls Try.prog 8 #[.slice A0 l0.length c0, .slice A1 l1.length c1] w fun e w' => e = .returned (.bool r) ∧ Below w.heap.size w w' := by
  unfold antiphonlaw1_OctetParts.f at h
  by_cases hp : partsOk l1 = true ∧ antiphonref1_Same.f k l0 l0 = some true
  case neg => rw [if_neg hp] at h; cases h
  rw [if_pos hp] at h
  obtain rfl := Option.some.inj h
  clear h
  have HR0 := Aside0.mk hr0
  have HR1 := Aside0.mk hr1
  have HC0 := Aside0.mk hc0
  have HP := Aside0.mk hp
  clear hr0 hr1 hp hc0
  have A1_ := Aside0.mk (show antiphonlaw1_awake.f = some true from rfl)
  go_enter Try.func8, Try.ntmps8
  go_wp2_with fail
  refine (antiphonlaw1_awake.calls true _ A1_.out).mono ?_
  rintro e wA ⟨rfl, hBA⟩
  have HBA := Aside0.mk hBA
  clear hBA
  by_cases hl0 : l0.length ≤ 500
  case neg =>
    have hl0' : decide (500 < l0.length) = true := decide_eq_true (by omega)
    go_wp2_with fail
    go_ret
    exact ⟨rfl, HBA.out⟩
  have hl0' : decide (500 < l0.length) = false := decide_eq_false (by omega)
  by_cases hl1 : l1.length ≤ 100
  case neg =>
    have hl1' : decide (100 < l1.length) = true := decide_eq_true (by omega)
    go_wp2_with fail
    go_ret
    exact ⟨rfl, HBA.out⟩
  have hl1' : decide (100 < l1.length) = false := decide_eq_false (by omega)
  go_wp2_with fail
  refine (octet_New.calls _ _ l0 _ (Kd.C_below HR0.out HBA.out) HC0.out (by omega)).mono ?_
  rintro e w2 ⟨g, w1, rfl, hB, hB1, hI⟩
  have HB1 := Aside0.mk hB1
  have HBW := Aside0.mk (below_step HBA.out hB)
  have HI := Aside0.mk hI
  have HR1' := Aside0.mk (Kd.C_below HR1.out HBW.out)
  have HR0' := Aside0.mk (Kd.C_below HR0.out HBW.out)
  have HPs := Aside0.mk (show ∀ x ∈ l1, 0 ≤ x ∧ x ≤ 255 from by
    intro x hx
    have := List.all_eq_true.1 HP.out.1 x hx
    simpa using this)
  clear hB hB1 hI HR0 HR1
  go_wp2_with fail
  go_loopw [6, 7] (fun v6 v7 wr => ∃ (j p : Nat), j ≤ l1.length ∧ p ≤ l0.length ∧ v7 = .int .i64 j ∧ Aside0 (Kd.R (Kd.int .u8) 5 wr w1.heap.size (fun _ => True) v6 (l0.take p)) ∧ Aside0 (IsRd w1 wr g (l0.drop p) false) ∧ Aside0 (Below w1.heap.size w1 wr)) (fun _ v7 _ => l1.length - (intOf v7).toNat)
  case atStart => exact ⟨0, 0, Nat.zero_le _, Nat.zero_le _, rfl, ⟨Kd.R_nil _ _ _ _ _⟩, HI, HB1⟩
  case round =>
    obtain ⟨j, p, hj, hp, rfl, HR, HI, HB⟩ := hrel
    by_cases hlt : j < l1.length
    · obtain ⟨ad, ead, hcell⟩ := Kd.at_int (Kd.C_below HR1'.out HB.out) j (by omega) (by omega)
      cases ead
      rw [Int.toNat_natCast] at hcell
      have hb0 := HPs.out (rd l1 j) (by unfold rd; rw [Int.toNat_natCast, List.getD_eq_getElem?_getD, List.getElem?_eq_getElem hlt]; exact List.getElem_mem hlt)
      have hn := Aside0.mk (show ∃ n : Nat, rd l1 ↑j % 9 = (n : Int) from ⟨(rd l1 ↑j % 9).toNat, by omega⟩)
      go_wp2_with fail
      obtain ⟨n, en⟩ := hn.out
      rw [en]
      refine (octet_Reader_Left.rd w1 _ g _ false HI.out).mono ?_
      rintro e w3 ⟨rfl, rfl⟩
      clear hcell hb0 en hn
      have hld := Aside0.mk (List.length_drop (l := l0) (i := p))
      by_cases hnl : n ≤ (l0.drop p).length
      · go_wp2_with fail
        refine (octet_Reader_Raw.yes w1 _ g (l0.drop p) n HI.out HB.out (by omega) (by omega) (by have := hld.out; omega)).mono ?_
        rintro e w4 ⟨v4, rfl, hR4, hI4, hg4⟩
        obtain ⟨A4, c4, rfl, hc4, hC4⟩ := Kd.R_reads hR4
        have ht : ((l0.drop p).take ((n : Nat) : Int).toNat).length = n := by rw [List.length_take, Int.toNat_natCast]; omega
        have HR4 := Aside0.mk (own_raw HI.out HR.out hg4)
        have HI4 := Aside0.mk hI4
        have HB4 := Aside0.mk (show Below w1.heap.size w1 w4 from HB.out.grown hg4 HB.out.size (fun k hk => by cases hk; obtain ⟨_, _, _, hge, _⟩ := HI.out; exact hge))
        have HC4 := Aside0.mk hC4
        clear hR4 hI4 hg4 hC4 HR HI HB
        have HX := Aside0.mk (show ∃ xs : List Int, (l0.drop p).take ((n : Nat) : Int).toNat = xs ∧ xs.length = n ∧ l0.take p ++ xs = l0.take (p + n) ∧ (l0.drop p).drop ((n : Nat) : Int).toNat = l0.drop (p + n) from
          ⟨_, rfl, ht, by rw [Int.toNat_natCast, List.take_add], by rw [Int.toNat_natCast, List.drop_drop]⟩)
        obtain ⟨xs, ex, el, ea, ed⟩ := HX.out
        rw [ex] at HC4 hc4 ⊢
        rw [ed] at HI4
        subst el
        have HEA := Aside0.mk ea
        have hd2 : decide (l0.length - p < xs.length) = false := decide_eq_false (by have := hld.out; omega)
        clear ex ed ea ht HX
        go_wp2_with (first
          | (go_at_call 19; refine (octet_Reader_Fail.rd w1 _ g _ false (HI4.out.drewN _)).mono ?_; rintro e w4' ⟨rfl, rfl⟩)
          | (go_at_call 19; refine (octet_Reader_Fail.rd w1 _ g _ false HI4.out).mono ?_; rintro e w4' ⟨rfl, rfl⟩)
          | ((with_reducible refine gate_builtin (b := .append) (xs := #[.tmp 85, .tmp 86]) rfl ?_); at_builtin; refine Kd.R_append_rows (Kd.int .u8) (w0 := w1) w1.heap.size rfl (.tmp 85) (.tmp 86) 22 5 (.int .u8 0) 1 rfl Try.underlying22 info5 rfl (by decide) (by omega) u6 (l0.take p) xs _ _ _ (fun _ => True) (fun _ => False) rfl rfl ?aO ?aR (fun _ _ h => h) (fun _ h => h.elim) (fun _ _ => trivial) ?aB ?aS ?aL ?_; (case aO => first | exact HR4.out | exact Kd.R_drewN HR4.out _); (case aR => first | exact HC4.out | exact Kd.C_drewN HC4.out _); (case aB => first | exact HB4.out | exact pw_below_drewN HB4.out _); (case aS => first | exact HB4.out.size | exact (pw_below_drewN HB4.out _).size); (case aL => have := hld.out; rw [List.length_take]; omega); intro v5 w5 ho hb hg hat; have HR5 := Aside0.mk ho; have HB5 := Aside0.mk hb; have HI5 := Aside0.mk (IsRd.only (by first | exact HI4.out | exact HI4.out.drewN _) hg (by first | exact IsRd.typed HI4.out HR4.out | exact IsRd.typed (HI4.out.drewN _) (Kd.R_drewN HR4.out _))); clear ho hb hg hat)
          | fail)
        exact ⟨⟨j + 1, p + xs.length, by omega, by have := hld.out; omega, by go_num, ⟨by rw [← HEA.out]; exact HR5.out⟩, HI5, HB5⟩, by simp [intOf]; omega⟩
      · go_wp2_with fail
        refine (octet_Reader_Raw.no w1 _ g (l0.drop p) false n HI.out (Or.inr (Or.inr (by omega)))).mono ?_
        rintro e w4 ⟨rfl, hI4, hg4⟩
        have hge : w1.heap.size ≤ g := by obtain ⟨_, _, _, hge, _⟩ := HI.out; exact hge
        have HGE := Aside0.mk hge
        have HI4 := Aside0.mk hI4
        have HB4 := Aside0.mk (show Below w1.heap.size w1 w4 from HB.out.grown hg4 HB.out.size (fun k hk => by cases hk; exact hge))
        have hd2 : decide (l0.length - p < n) = true := decide_eq_true (by have := hld.out; omega)
        clear hI4 hg4 HR HI HB hge
        go_wp2_with (first
          | (go_at_call 17; refine (octet_Reader_Num.no w1 _ g _ true 1 HI4.out HB4.out (Or.inr (Or.inr (Or.inl rfl)))).mono ?_; rintro e w5 ⟨rfl, hI5, hg5⟩; have HI5 := Aside0.mk hI5; have HB5 := Aside0.mk (show Below w1.heap.size w1 w5 from HB4.out.grown hg5 HB4.out.size (fun k hk => by cases hk; exact HGE.out)); clear hI5 hg5)
          | (go_at_call 18; refine (octet_Reader_Raw.no w1 _ g _ true 0 HI5.out (Or.inl rfl)).mono ?_; rintro e w6 ⟨rfl, hI6, hg6⟩; have HI6 := Aside0.mk hI6; have HB6 := Aside0.mk (show Below w1.heap.size w1 w6 from HB5.out.grown hg6 HB5.out.size (fun k hk => by cases hk; exact HGE.out)); clear hI6 hg6)
          | (go_at_call 19; refine (octet_Reader_Fail.rd w1 _ g _ true (HI6.out.drewN _)).mono ?_; rintro e w7 ⟨rfl, rfl⟩)
          | (go_at_call 20; refine (octet_Reader_Left.rd w1 _ g _ true (HI6.out.drewN _)).mono ?_; rintro e w7 ⟨rfl, rfl⟩)
          | (go_at_call 19; refine (octet_Reader_Fail.rd w1 _ g _ true HI6.out).mono ?_; rintro e w7 ⟨rfl, rfl⟩)
          | (go_at_call 20; refine (octet_Reader_Left.rd w1 _ g _ true HI6.out).mono ?_; rintro e w7 ⟨rfl, rfl⟩)
          | (go_at_call 23; refine (octet_Reader_Rest.no w1 _ g _ HI6.out).mono ?_; rintro e w8 ⟨rfl, hI8, hg8⟩; have HI8 := Aside0.mk hI8; have HB8 := Aside0.mk (show Below w1.heap.size w1 w8 from HB6.out.grown hg8 HB6.out.size (fun k hk => by cases hk; exact HGE.out)); clear hI8 hg8)
          | (go_at_call 23; refine (octet_Reader_Rest.no w1 _ g _ (HI6.out.drewN _)).mono ?_; rintro e w8 ⟨rfl, hI8, hg8⟩; have HI8 := Aside0.mk hI8; have HB8 := Aside0.mk (show Below w1.heap.size w1 w8 from (pw_below_drewN HB6.out _).grown hg8 (pw_below_drewN HB6.out _).size (fun k hk => by cases hk; exact HGE.out)); clear hI8 hg8)
          | fail)
        go_ret
        exact ⟨rfl, below_step HBW.out HB8.out⟩
    · obtain rfl : j = l1.length := by omega
      have hld := Aside0.mk (List.length_drop (l := l0) (i := p))
      obtain ⟨y, ey⟩ : ∃ y, l0.drop p = y := ⟨_, rfl⟩
      rw [ey] at HI hld
      have HEY := Aside0.mk (show l0.take p ++ y = l0 from by rw [← ey, List.take_append_drop])
      clear ey
      have htl := Aside0.mk (show (l0.take p).length = p by rw [List.length_take]; omega)
      go_wp2_with (first
        | (go_at_call 23; refine (octet_Reader_Rest.yes w1 _ g _ HI.out HB.out (by have := hld.out; omega)).mono ?_; rintro e w4 ⟨v4, rfl, hR4, hI4, hg4⟩; obtain ⟨A4, c4, rfl, hc4, hC4⟩ := Kd.R_reads hR4; have HR4 := Aside0.mk (own_raw HI.out HR.out hg4); have HI4 := Aside0.mk hI4; have HB4 := Aside0.mk (show Below w1.heap.size w1 w4 from HB.out.grown hg4 HB.out.size (fun k hk => by cases hk; obtain ⟨_, _, _, hge, _⟩ := HI.out; exact hge)); have HC4 := Aside0.mk hC4; clear hR4 hI4 hg4 hC4)
        | ((with_reducible refine gate_builtin (b := .append) (xs := #[.tmp 88, .tmp 90]) rfl ?_); at_builtin; refine Kd.R_append_rows (Kd.int .u8) (w0 := w1) w1.heap.size rfl (.tmp 88) (.tmp 90) 22 5 (.int .u8 0) 1 rfl Try.underlying22 info5 rfl (by decide) (by omega) u6 (l0.take p) y _ _ _ (fun _ => True) (fun _ => False) rfl rfl ?aO ?aR (fun _ _ h => h) (fun _ h => h.elim) (fun _ _ => trivial) ?aB ?aS ?aL ?_; (case aO => first | exact HR4.out | exact Kd.R_drewN HR4.out _); (case aR => first | exact HC4.out | exact Kd.C_drewN HC4.out _); (case aB => first | exact HB4.out | exact pw_below_drewN HB4.out _); (case aS => first | exact HB4.out.size | exact (pw_below_drewN HB4.out _).size); (case aL => have := hld.out; have := htl.out; omega); intro v5 w5 ho hb hg hat; rw [HEY.out] at ho; obtain ⟨A5, c5, rfl, hc5, hC5⟩ := Kd.R_reads ho; have HC5 := Aside0.mk hC5; have Hc5 := Aside0.mk hc5; have HB5 := Aside0.mk hb; have HI5 := Aside0.mk (IsRd.only (by first | exact HI4.out | exact HI4.out.drewN _) hg (by first | exact IsRd.typed HI4.out HR4.out | exact IsRd.typed (HI4.out.drewN _) (Kd.R_drewN HR4.out _))); clear ho hb hg hat hC5 hc5)
        | (go_at_call 12; refine (antiphonref1_Same.calls k A5 c5 l0 A0 c0 l0 true _ (by first | exact HC5.out | exact Kd.C_drewN HC5.out _) Hc5.out (by first | exact Kd.C_below HR0'.out HB5.out | exact Kd.C_drewN (Kd.C_below HR0'.out HB5.out) _) HC0.out HP.out.2).mono ?_; rintro e w6 ⟨rfl, hd6⟩; have HD6 := Aside0.mk (Drawn0.below hd6); clear hd6)
        | (go_at_call 20; refine (octet_Reader_Left.rd w1 _ g _ false (HI5.out.below HD6.out)).mono ?_; rintro e w7 ⟨rfl, rfl⟩)
        | (go_at_call 20; refine (octet_Reader_Left.rd w1 _ g _ false ((HI5.out.below HD6.out).drewN _)).mono ?_; rintro e w7 ⟨rfl, rfl⟩)
        | (go_at_call 19; refine (octet_Reader_Fail.rd w1 _ g _ false (HI5.out.below HD6.out)).mono ?_; rintro e w7 ⟨rfl, rfl⟩)
        | (go_at_call 19; refine (octet_Reader_Fail.rd w1 _ g _ false ((HI5.out.below HD6.out).drewN _)).mono ?_; rintro e w7 ⟨rfl, rfl⟩)
        | fail)
      go_ret
      exact ⟨rfl, below_step HBW.out (below_step HB5.out HD6.out)⟩

end Go.Proofs.Ytngahjgbeekldaa.P
