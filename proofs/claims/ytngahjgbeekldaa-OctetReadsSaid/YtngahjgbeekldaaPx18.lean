-- Laid by a program of this session (wip/print2).
import Derived.Test.YtngahjgbeekldaaPx0
import Derived.Test.YtngahjgbeekldaaPx15
import Derived.Test.YtngahjgbeekldaaPx17
import Derived.Test.YtngahjgbeekldaaPx19
import Derived.Test.YtngahjgbeekldaaPx27
namespace Go.Proofs.Ytngahjgbeekldaa.P
open Go.RowKit Go.Proofs.YtngahjgbeekldaaW.PrintWords Go.Proofs.YtngahjgbeekldaaW.PrintLast Go.Proofs.YtngahjgbeekldaaW.PrintMore
attribute [local go_sem] max2_int min2_int max_two min_two max_three min_three max_four min_four   -- for this text's walks alone
set_option linter.unusedVariables false
set_option linter.unusedSimpArgs false

/-! ### octet_Reader_Num: function 17 -/
/-- Num, refused: 0, and the reader has failed. -/
theorem octet_Reader_Num.no (w0 w : World) (g : Nat) (l : List Int) (b : Bool) (n : Int) (h : IsRd w0 w g l b) (hB : Below w0.heap.size w0 w) (hn : n < 1 ∨ 7 < n ∨ b = true ∨ (l.length : Int) < n) :
    Calls Try.prog 17 #[.pointer (some ⟨g, 0, none⟩), .int .i64 n] w fun e w' => e = .returned (.int .i64 0) ∧ IsRd w0 w' g l true ∧ w.grownBy w' (some g) := by
  have H := Aside0.mk h
  have hG := Aside0.mk (show octet_Get.f 1 [] = some 0 by decide)
  have hGc : ∀ W : World, Calls Try.prog 14 #[.slice none 0 0] W fun e w' => e = .returned (.int .i64 0) ∧ Drawn0 W w' := fun W => octet_Get.calls 1 none 0 [] 0 W (Kd.C_of_reads (d := (0 : Int)) (enc := Value.int .u8) (h1 := fun _ => rfl) ⟨rfl, by simp, fun h => absurd h (by simp)⟩) (by simp) hG.out
  have HGc := Aside0.mk hGc
  by_cases hm : n < 1 ∨ 7 < n
  · have hmay : octet_may.f n = some false := by
      unfold octet_may.f
      by_cases h1 : n < 1
      · rw [if_neg (by omega)]
      · rw [if_pos (by omega), decide_eq_false (by omega)]
    have HM := Aside0.mk hmay
    obtain ⟨A0, c0, hb, hg, hC, hc⟩ := h
    have hc1 : w.cell? ⟨g, 1, none⟩ = some (.bool b) := (blk_cell hb 1).trans rfl
    have hf1 : w.frozen? ⟨g, 1, none⟩ = false := blk_frozen hb 1
    clear hmay hn hm hb hC hc hg hGc hG
    go_enter Try.func17, Try.ntmps17
    go_wp2_with (first
      | (go_at_call 26; refine (octet_may.calls n false _ HM.out).mono ?_; rintro e w1 ⟨rfl, ⟨nd, rfl⟩⟩)
      | (go_at_call 18; refine (octet_Reader_Raw.no w0 _ g l true n (H.out.drewN _).failed (Or.inl rfl)).mono ?_; rintro e w2 ⟨rfl, hI2, hg2⟩; have HI2 := Aside0.mk hI2; have Hg2 := Aside0.mk hg2; clear hI2 hg2)
      | (go_at_call 14; refine (HGc.out _).mono ?_; rintro e w3 ⟨rfl, ⟨nd3, rfl⟩⟩))
    go_ret
    exact ⟨rfl, HI2.out.drewN _, World.grownBy.trans (World.grownBy.trans (only_below (Drawn0.below ⟨⟨nd, rfl⟩⟩) _) (only_set 1 _)) (only_drewN Hg2.out _)⟩
  · have hmay : octet_may.f n = some true := by
      unfold octet_may.f
      rw [if_pos (by omega), decide_eq_true (by omega)]
    have HM := Aside0.mk hmay
    have hN : b = true ∨ n < 0 ∨ (l.length : Int) < n := by
      rcases hn with h | h | h | h
      · exact absurd (Or.inl h) hm
      · exact absurd (Or.inr h) hm
      · exact .inl h
      · exact .inr (.inr h)
    have HN := Aside0.mk hN
    clear hN
    clear hmay hn hm hGc hG h
    go_enter Try.func17, Try.ntmps17
    go_wp2_with (first
      | (go_at_call 26; refine (octet_may.calls n true _ HM.out).mono ?_; rintro e w1 ⟨rfl, ⟨nd, rfl⟩⟩)
      | (go_at_call 18; refine (octet_Reader_Raw.no w0 _ g l b n (H.out.drewN _) HN.out).mono ?_; rintro e w2 ⟨rfl, hI2, hg2⟩; have HI2 := Aside0.mk hI2; have Hg2 := Aside0.mk hg2; clear hI2 hg2)
      | (go_at_call 14; refine (HGc.out _).mono ?_; rintro e w3 ⟨rfl, ⟨nd3, rfl⟩⟩))
    go_ret
    exact ⟨rfl, HI2.out.drewN _, World.grownBy.trans (only_below (Drawn0.below ⟨⟨nd, rfl⟩⟩) _) (only_drewN Hg2.out _)⟩

/-- Num, granted: the number that the bytes are (as Get says), and what is left. -/
theorem octet_Reader_Num.yes (k : Nat) (w0 w : World) (g : Nat) (l : List Int) (n r : Int) (h : IsRd w0 w g l false) (hB : Below w0.heap.size w0 w) (h1 : 1 ≤ n) (h7 : n ≤ 7) (hn : n ≤ l.length) (hl : l.length < 140737488355328) (hG : octet_Get.f k (l.take n.toNat) = some r) :
    Calls Try.prog 17 #[.pointer (some ⟨g, 0, none⟩), .int .i64 n] w fun e w' => e = .returned (.int .i64 r) ∧ IsRd w0 w' g (l.drop n.toNat) false ∧ w.grownBy w' (some g) := by
  have H := Aside0.mk h
  have HB := Aside0.mk hB
  have HG := Aside0.mk hG
  have hmay : octet_may.f n = some true := by
    unfold octet_may.f
    rw [if_pos (by omega), decide_eq_true (by omega)]
  have HM := Aside0.mk hmay
  have HN := Aside0.mk (And.intro (show 0 ≤ n by omega) (And.intro hn hl))
  have ht : (l.take n.toNat).length = n.toNat := by rw [List.length_take]; omega
  have hget : ∀ (W : World) (A : Option Addr) (c : Nat), (Kd.int .u8).C W A n.toNat (l.take n.toNat) → n.toNat ≤ c → Calls Try.prog 14 #[.slice A n.toNat c] W fun e w' => e = .returned (.int .i64 r) ∧ Drawn0 W w' := by
    intro W A c hC hc
    have := octet_Get.calls k A c (l.take n.toNat) r W (by rw [ht]; exact hC) (by omega) hG
    rwa [ht] at this
  have HGet := Aside0.mk hget
  have HT := Aside0.mk ht
  clear hmay h hB hG h1 h7 hn hl hget ht
  go_enter Try.func17, Try.ntmps17
  go_wp2_with (first
    | (go_at_call 26; refine (octet_may.calls n true _ HM.out).mono ?_; rintro e w1 ⟨rfl, ⟨nd, rfl⟩⟩)
    | (go_at_call 18; refine (octet_Reader_Raw.yes w0 _ g l n (H.out.drewN _) (pw_below_drewN HB.out _) HN.out.1 HN.out.2.1 HN.out.2.2).mono ?_; rintro e w2 ⟨v, rfl, hR, hI2, hg2⟩; obtain ⟨A1, c1, rfl, hc1, hC1⟩ := Kd.R_reads hR; rw [HT.out] at hc1 hC1; rw [HT.out]; have HC1 := Aside0.mk hC1; have Hc1 := Aside0.mk hc1; have HI2 := Aside0.mk hI2; have Hg2 := Aside0.mk hg2; clear hR hI2 hg2 hc1 hC1)
    | (go_at_call 14; refine (HGet.out _ _ _ HC1.out Hc1.out).mono ?_; rintro e w3 ⟨rfl, ⟨nd3, rfl⟩⟩))
  go_ret
  exact ⟨rfl, HI2.out.drewN _, World.grownBy.trans (only_below (Drawn0.below ⟨⟨nd, rfl⟩⟩) _) (only_drewN Hg2.out _)⟩

end Go.Proofs.Ytngahjgbeekldaa.P
