-- Laid by a program of this session (wip/print2).
import Derived.Test.YtngahjgbeekldaaPx0
import Derived.Test.YtngahjgbeekldaaPx15
import Derived.Test.YtngahjgbeekldaaPx17
import Derived.Test.YtngahjgbeekldaaPx20
import Derived.Test.YtngahjgbeekldaaPx26
import Derived.Test.YtngahjgbeekldaaPx27
namespace Go.Proofs.Ytngahjgbeekldaa.P
open Go.RowKit Go.Proofs.YtngahjgbeekldaaW.PrintWords Go.Proofs.YtngahjgbeekldaaW.PrintLast Go.Proofs.YtngahjgbeekldaaW.PrintMore
attribute [local go_sem] max2_int min2_int max_two min_two max_three min_three max_four min_four   -- for this text's walks alone
set_option linter.unusedVariables false
set_option linter.unusedSimpArgs false

/-! ### octet_All_int: function 24 -/
/-- Words as bytes, the high one first. -/
def wordB : List Int → List Int
  | [] => []
  | x :: l => x / 256 :: x % 256 :: wordB l
theorem wordB_length : ∀ l : List Int, (wordB l).length = 2 * l.length
  | [] => rfl
  | x :: l => by rw [wordB, List.length_cons, List.length_cons, wordB_length l, List.length_cons]; omega
theorem wordB_snoc : ∀ (l : List Int) (x : Int), wordB (l ++ [x]) = wordB l ++ [x / 256, x % 256]
  | [], x => rfl
  | y :: l, x => by rw [List.cons_append, wordB, wordB_snoc l x]; rfl
theorem wordB_drop : ∀ (l : List Int) (j : Nat), (wordB (l.drop j)).drop 2 = wordB (l.drop (j + 1))
  | [], j => by simp [wordB]
  | x :: l, 0 => by simp [wordB]
  | x :: l, j + 1 => wordB_drop l j
theorem word_get (l : List Int) (hw : ∀ x ∈ l, 0 ≤ x ∧ x < 65536) (j : Nat) (hj : j < l.length) : octet_Get.f 10 ((wordB (l.drop j)).take 2) = some (rd l (j : Int)) := by
  have hx := hw l[j] (List.getElem_mem hj)
  have er : rd l (j : Int) = l[j] := by unfold rd; rw [Int.toNat_natCast, List.getD_eq_getElem?_getD, List.getElem?_eq_getElem hj]; rfl
  have ed : (wordB (l.drop j)).take 2 = [l[j] / 256, l[j] % 256] := by rw [List.drop_eq_getElem_cons hj]; rfl
  rw [ed, er]
  have hb : ∀ a b : Int, 0 ≤ a → a < 256 → 0 ≤ b → b < 256 → octet_Get.f 10 [a, b] = some (a * 256 + b) := by
    intro a b a0 a1 b0 b1
    have hl : (([a, b] : List Int).length : Int) = 2 := rfl
    have hm : octet_may.f 2 = some true := by decide
    have h1 : wrap64 ((0 : Int) + 1) = 1 := by decide +kernel
    have h2 : wrap64 ((1 : Int) + 1) = 2 := by decide +kernel
    have w : ∀ x : Int, 0 ≤ x → x < 70000 → wrap64 x = x := by intro x _ _; unfold wrap64; omega
    have o1 : Go.bits .or .i64 (wrap64 (0 * 256)) (wrap64 a) = a := by
      have H : ∀ j : Fin 256, Go.bits .or .i64 (wrap64 (0 * 256)) (wrap64 (j.val : Int)) = (j.val : Int) := by decide +kernel
      have := H ⟨a.toNat, by omega⟩
      rwa [show ((a.toNat : Nat) : Int) = a by omega] at this
    have o2 : Go.bits .or .i64 (wrap64 (a * 256)) (wrap64 b) = a * 256 + b := by
      rw [w _ (by omega) (by omega), w _ b0 (by omega)]
      exact bits_join .i64 62 (by decide) (fun n h0 h1 => by rw [i64_w]; unfold wrap64; omega) 8 (a * 256) b (by omega) (by omega) (by omega) b0 (by omega) (by omega)
    unfold octet_Get.f
    rw [hl, hm, Option.bind_some, if_pos rfl, octet_Get.l0, if_pos (by decide), if_pos (by decide), if_pos (by rw [hl]; decide)]
    show octet_Get.l0 9 (Go.bits .or .i64 (wrap64 (0 * 256)) (wrap64 a)) [a, b] 2 (wrap64 (0 + 1)) = _
    rw [o1, h1, octet_Get.l0, if_pos (by decide), if_pos (by decide), if_pos (by rw [hl]; decide)]
    show octet_Get.l0 8 (Go.bits .or .i64 (wrap64 (a * 256)) (wrap64 b)) [a, b] 2 (wrap64 (1 + 1)) = _
    rw [o2, h2, octet_Get.l0, if_neg (by decide)]
  rw [hb _ _ (by omega) (by omega) (by omega) (by omega)]
  congr 1
  omega
theorem IsRd.only_ {w0 W W1 : World} {g : Nat} {row : Option Nat} {l : List Int} {b : Bool} (h : IsRd w0 W g l b) (hw : W.grownBy W1 row) (hne : some g ≠ row) : IsRd w0 W1 g l b := by
  obtain ⟨A0, c0, hb, h2⟩ := h
  exact ⟨A0, c0, (hw.block g (blk_lt hb) hne).trans hb, h2⟩
theorem IsRd.typed64 {w0 W : World} {g : Nat} {l : List Int} {b : Bool} (h : IsRd w0 W g l b) {base : Nat} {v : Value} {xs : List Int} (hR : Kd.R (Kd.int .i64) 3 W base (fun _ => True) v xs) : some g ≠ v.ownBlock := by
  obtain ⟨A0, c0, hb, h2⟩ := h
  exact Kd.R_ne hR hb (by decide)
theorem own_raw64 {w0 W W1 : World} {g : Nat} {l : List Int} {b : Bool} (h : IsRd w0 W g l b) {base : Nat} {v : Value} {xs : List Int} (hR : Kd.R (Kd.int .i64) 3 W base (fun _ => True) v xs) (hw : W.grownBy W1 (some g)) : Kd.R (Kd.int .i64) 3 W1 base (fun _ => True) v xs := by
  obtain ⟨A0, c0, hb, h2⟩ := h
  refine Kd.R_mono (Kd.R_grown (Kd.R_types hR hb (by intro q hq; simp [Kd.int, Kd.scalar] at hq; rw [hq]; decide)) hw ?_) (fun _ _ => trivial)
  intro k hk e
  exact hk.2 (by injection e)
/-- All, by two: the words that are asked for, or none where they do not reach. -/
def allGot (ws : List Int) (n : Int) : List Int := if n ≤ ws.length then ws.take n.toNat else []
set_option maxHeartbeats 4000000 in
set_option maxRecDepth 100000 in
theorem octet_All_int.calls (w0 w : World) (g : Nat) (ws : List Int) (n : Int) (h : IsRd w0 w g (wordB ws) false) (hB : Below w0.heap.size w0 w) (hw : ∀ x ∈ ws, 0 ≤ x ∧ x < 65536) (hl : ws.length ≤ 200) :
    Calls Try.prog 24 #[.int .i64 n, .func (.func 25) #[] #[], .pointer (some ⟨g, 0, none⟩)] w fun e w' => ∃ (v : Value), e = .returned v ∧ Kd.R (Kd.int .i64) 3 w' w0.heap.size (fun _ => True) v (allGot ws n) ∧ ∃ (l' : List Int), IsRd w0 w' g l' (decide ((ws.length : Int) < n) && decide (n ≤ 1048576)) ∧ (n ≤ ws.length → l'.length = 2 * (ws.length - n.toNat)) ∧ Below w0.heap.size w0 w' := by
  have HI0 := Aside0.mk h
  have HB0 := Aside0.mk hB
  have HW := Aside0.mk hw
  have HGE := Aside0.mk (show w0.heap.size ≤ g by obtain ⟨_, _, _, hge, _⟩ := h; exact hge)
  clear h hB hw
  go_enter Try.func24, Try.ntmps24
  by_cases hn : n ≤ 1048576
  case neg =>
    have hd : decide (1048576 < n) = true := decide_eq_true (by omega)
    go_wp2_with fail
    go_ret
    refine ⟨_, rfl, ?_, _, by rw [decide_eq_false (show ¬ n ≤ 1048576 by omega), Bool.and_false]; exact HI0.out, fun h => absurd h (by omega), HB0.out⟩
    unfold allGot
    rw [if_neg (by omega)]
    exact Kd.R_nil _ _ _ _ _
  have hd : decide (1048576 < n) = false := decide_eq_false (by omega)
  go_wp2_with fail
  go_loopw [7, 8] (fun v7 v8 wr => ∃ (j : Nat) (b : Bool) (l acc : List Int), v8 = .int .i64 j ∧ (b = false → j ≤ ws.length ∧ (j ≤ n.toNat) ∧ acc = ws.take j ∧ l = wordB (ws.drop j)) ∧ (b = true → j = ws.length + 1 ∧ (ws.length : Int) < n) ∧ Aside0 (Kd.R (Kd.int .i64) 3 wr w0.heap.size (fun _ => True) v7 acc) ∧ Aside0 (IsRd w0 wr g l b) ∧ Aside0 (Below w0.heap.size w0 wr)) (fun _ v8 _ => ws.length + 2 - (intOf v8).toNat)
  case atStart => exact ⟨0, false, _, _, rfl, (fun _ => ⟨Nat.zero_le _, Nat.zero_le _, rfl, rfl⟩), (fun h => by cases h), ⟨Kd.R_nil _ _ _ _ _⟩, HI0, HB0⟩
  case round =>
    obtain ⟨j, b, l, acc, rfl, hno, hyes, HR, HI, HB⟩ := hrel
    cases b with
    | true =>
      obtain ⟨rfl, hlt⟩ := hyes rfl
      clear hno hyes
      have fin : ∀ W : World, W = wr → (∃ l' : List Int, IsRd w0 W g l' (decide ((ws.length : Int) < n) && decide (n ≤ 1048576)) ∧ (n ≤ ws.length → l'.length = 2 * (ws.length - n.toNat)) ∧ Below w0.heap.size w0 W) := by
        rintro W rfl
        exact ⟨l, by rw [decide_eq_true hlt, decide_eq_true hn]; exact HI.out, fun h => absurd h (by omega), HB.out⟩
      have HF := Aside0.mk fin
      have hG : allGot ws n = [] := by unfold allGot; rw [if_neg (by omega)]
      clear fin
      by_cases hjn : ((ws.length + 1 : Nat) : Int) < n
      · have hjd' : decide ((ws.length : Int) + 1 < n) = true := decide_eq_true (by omega)
        clear hlt
        go_wp2_with (first
          | (go_at_call 19; refine (octet_Reader_Fail.rd w0 _ g _ true HI.out).mono ?_; rintro e w7 ⟨rfl, rfl⟩)
          | (go_at_call 19; refine (octet_Reader_Fail.rd w0 _ g _ true (HI.out.drewN _)).mono ?_; rintro e w7 ⟨rfl, rfl⟩)
          | fail)
        go_ret
        exact ⟨_, rfl, by rw [hG]; exact Kd.R_nil _ _ _ _ _, HF.out _ rfl⟩
      · have hjd' : decide ((ws.length : Int) + 1 < n) = false := decide_eq_false (by omega)
        clear hlt
        go_wp2_with (first
          | (go_at_call 19; refine (octet_Reader_Fail.rd w0 _ g _ true HI.out).mono ?_; rintro e w7 ⟨rfl, rfl⟩)
          | (go_at_call 19; refine (octet_Reader_Fail.rd w0 _ g _ true (HI.out.drewN _)).mono ?_; rintro e w7 ⟨rfl, rfl⟩)
          | fail)
        go_ret
        exact ⟨_, rfl, by rw [hG]; exact Kd.R_nil _ _ _ _ _, HF.out _ rfl⟩
    | false =>
      obtain ⟨hj, hjn, rfl, rfl⟩ := hno rfl
      clear hno hyes
      by_cases hlt : (j : Int) < n
      · have hjd : decide ((j : Int) < n) = true := decide_eq_true hlt
        by_cases hjw : j < ws.length
        · have hG2 := Aside0.mk (word_get ws HW.out j hjw)
          have hlen : 2 ≤ (wordB (ws.drop j)).length := by rw [wordB_length, List.length_drop]; omega
          have hlen2 : (wordB (ws.drop j)).length < 140737488355328 := by rw [wordB_length, List.length_drop]; omega
          go_wp2_with (first
            | (go_at_call 19; refine (octet_Reader_Fail.rd w0 _ g _ false HI.out).mono ?_; rintro e w7 ⟨rfl, rfl⟩)
            | (go_at_call 19; refine (octet_Reader_Fail.rd w0 _ g _ false (HI.out.drewN _)).mono ?_; rintro e w7 ⟨rfl, rfl⟩)
            | (go_at_call 25; refine (antiphonlaw1_two.yes 10 w0 _ g _ _ HI.out HB.out hlen hlen2 hG2.out).mono ?_; rintro e w4 ⟨rfl, hI4, hg4⟩; have HR4 := Aside0.mk (own_raw64 HI.out HR.out hg4); have HI4 := Aside0.mk hI4; have HB4 := Aside0.mk (show Below w0.heap.size w0 w4 from HB.out.grown hg4 HB.out.size (fun k hk => by cases hk; exact HGE.out)); clear hI4 hg4)
            | ((with_reducible refine gate_builtin (b := .append) (xs := #[.tmp 21, .tmp 25]) rfl ?_); at_builtin; refine Kd.R_append (Kd.int .i64) (w0 := w0) w0.heap.size rfl (.tmp 21) (.tmp 25) 46 3 (.int .i64 0) 8 rfl Try.underlying46 info3 rfl (by decide) (by omega) u7 (ws.take j) (rd ws (j : Int)) [.int .i64 (rd ws (j : Int))] (fun _ => True) (fun _ => False) rfl rfl ?aP (fun _ hk => hk.elim) ?aF ?aO ?aB ?aS ?aL ?_; (case aP => exact rfl); (case aB => first | exact below_alloc HB4.out _ | exact HB4.out | exact pw_below_drewN (below_alloc HB4.out _) _); (case aF => exact (fun _ _ => trivial)); (case aO => (with_reducible repeat (first | apply Kd.R_alloc | apply Kd.R_drewN | apply Kd.R_drew)); exact HR4.out); (case aS => exact HB4.out.size); (case aL => have := List.length_take_le j ws; omega); intro v5 w5 ho hb hg hat; have HR5 := Aside0.mk ho; have HB5 := Aside0.mk hb; have HI5 := Aside0.mk (IsRd.only_ HI4.out hg (IsRd.typed64 HI4.out HR4.out)); clear ho hb hg hat)
            | fail)
          have et : ws.take (j + 1) = ws.take j ++ [rd ws (j : Int)] := by
            rw [List.take_add_one, List.getElem?_eq_getElem hjw]
            unfold rd
            rw [Int.toNat_natCast, List.getD_eq_getElem?_getD, List.getElem?_eq_getElem hjw]
            rfl
          exact ⟨⟨j + 1, false, _, _, by go_num, (fun _ => ⟨by omega, by omega, rfl, rfl⟩), (fun h => by cases h), ⟨by rw [et]; exact HR5.out⟩, ⟨by rw [← wordB_drop]; exact HI5.out⟩, HB5⟩, by simp [intOf]; omega⟩
        · obtain rfl : j = ws.length := by omega
          have hlen : (wordB (ws.drop ws.length)).length < 2 := by rw [wordB_length, List.length_drop]; omega
          go_wp2_with (first
            | (go_at_call 19; refine (octet_Reader_Fail.rd w0 _ g _ false HI.out).mono ?_; rintro e w7 ⟨rfl, rfl⟩)
            | (go_at_call 19; refine (octet_Reader_Fail.rd w0 _ g _ false (HI.out.drewN _)).mono ?_; rintro e w7 ⟨rfl, rfl⟩)
            | (go_at_call 25; refine (antiphonlaw1_two.no w0 _ g _ HI.out HB.out hlen).mono ?_; rintro e w4 ⟨rfl, hI4, hg4⟩; have HR4 := Aside0.mk (own_raw64 HI.out HR.out hg4); have HI4 := Aside0.mk hI4; have HB4 := Aside0.mk (show Below w0.heap.size w0 w4 from HB.out.grown hg4 HB.out.size (fun k hk => by cases hk; exact HGE.out)); clear hI4 hg4)
            | ((with_reducible refine gate_builtin (b := .append) (xs := #[.tmp 21, .tmp 25]) rfl ?_); at_builtin; refine Kd.R_append (Kd.int .i64) (w0 := w0) w0.heap.size rfl (.tmp 21) (.tmp 25) 46 3 (.int .i64 0) 8 rfl Try.underlying46 info3 rfl (by decide) (by omega) u7 (ws.take ws.length) 0 [.int .i64 0] (fun _ => True) (fun _ => False) rfl rfl ?aP (fun _ hk => hk.elim) ?aF ?aO ?aB ?aS ?aL ?_; (case aP => exact rfl); (case aB => first | exact below_alloc HB4.out _ | exact HB4.out | exact pw_below_drewN (below_alloc HB4.out _) _); (case aF => exact (fun _ _ => trivial)); (case aO => (with_reducible repeat (first | apply Kd.R_alloc | apply Kd.R_drewN | apply Kd.R_drew)); exact HR4.out); (case aS => exact HB4.out.size); (case aL => have := List.length_take_le ws.length ws; omega); intro v5 w5 ho hb hg hat; have HR5 := Aside0.mk ho; have HB5 := Aside0.mk hb; have HI5 := Aside0.mk (IsRd.only_ HI4.out hg (IsRd.typed64 HI4.out HR4.out)); clear ho hb hg hat)
            | fail)
          exact ⟨⟨ws.length + 1, true, _, _, by go_num, (fun h => by cases h), (fun _ => ⟨rfl, hlt⟩), HR5, HI5, HB5⟩, by simp [intOf]⟩
      · have hjd : decide ((j : Int) < n) = false := decide_eq_false hlt
        go_wp2_with (first
          | (go_at_call 19; refine (octet_Reader_Fail.rd w0 _ g _ false HI.out).mono ?_; rintro e w7 ⟨rfl, rfl⟩)
          | (go_at_call 19; refine (octet_Reader_Fail.rd w0 _ g _ false (HI.out.drewN _)).mono ?_; rintro e w7 ⟨rfl, rfl⟩)
          | fail)
        go_ret
        have ej : j = n.toNat := by omega
        refine ⟨_, rfl, ?_, _, by rw [decide_eq_false (by omega)]; exact HI.out, fun _ => ?_, HB.out⟩
        · unfold allGot
          rw [if_pos (by omega), ← ej]
          exact HR.out
        · rw [wordB_length, List.length_drop, ej]

end Go.Proofs.Ytngahjgbeekldaa.P
