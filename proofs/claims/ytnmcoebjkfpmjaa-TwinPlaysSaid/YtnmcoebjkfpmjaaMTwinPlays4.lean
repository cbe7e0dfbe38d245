/- Whatever befalls a check: what is sent, what is told and how it stands are as_ the reference's. -/
-- Put together by wip/print2/mergelaw.py: printed words (what this claim does not use is left out), printed functions, texts of this session.
import Derived.Test.YtnmcoebjkfpmjaaMTwinPlays3
/-! Px120 -/
namespace Go.Proofs.Ytnmcoebjkfpmjaa.P
open Go.RowKit Go.Proofs.YtnmcoebjkfpmjaaW.PrintWords Go.Proofs.YtnmcoebjkfpmjaaW.PrintLast Go.Proofs.YtnmcoebjkfpmjaaW.PrintMore
attribute [local go_sem] max2_int min2_int max_two min_two max_three min_three max_four min_four   -- for this text's walks alone
set_option linter.unusedVariables false
set_option linter.unusedSimpArgs false
theorem octet_Reader_Left.rd (w0 w : World) (g : Nat) (l : List Int) (b : Bool) (h : IsRd w0 w g l b) :
    Calls Try.prog 119 #[.pointer (some ⟨g, 0, none⟩)] w fun e w' => e = .returned (.int .i64 l.length) ∧ w = w' := by
  obtain ⟨A0, c0, hb, hg, hC, hc⟩ := h
  have hc0 : w.cell? ⟨g, 0, none⟩ = some (.slice A0 l.length c0) := (blk_cell hb 0).trans rfl
  clear hb hC hg
  go_enter Try.func119, Try.ntmps119
  go_wp2
  go_ret
  exact ⟨rfl, rfl⟩
end Go.Proofs.Ytnmcoebjkfpmjaa.P
/-! Px91 -/
namespace Go.Proofs.Ytnmcoebjkfpmjaa.P
open Go.RowKit Go.Proofs.YtnmcoebjkfpmjaaW.PrintWords Go.Proofs.YtnmcoebjkfpmjaaW.PrintLast Go.Proofs.YtnmcoebjkfpmjaaW.PrintMore
attribute [local go_sem] max2_int min2_int max_two min_two max_three min_three max_four min_four   -- for this text's walks alone
set_option linter.unusedVariables false
set_option linter.unusedSimpArgs false
theorem octet_Reader_Rest.yes (w0 w : World) (g : Nat) (l : List Int) (h : IsRd w0 w g l false) (hB : Below w0.heap.size w0 w) (hl : l.length < 140737488355328) :
    Calls Try.prog 90 #[.pointer (some ⟨g, 0, none⟩)] w fun e w' => ∃ v, e = .returned v ∧ Kd.R (Kd.int .u8) 5 w' w.heap.size (fun _ => True) v l ∧ IsRd w0 w' g [] false ∧ w.grownBy w' (some g) := by
  have H := Aside0.mk h
  have HB := Aside0.mk hB
  have HL := Aside0.mk hl
  clear h hB
  go_enter Try.func90, Try.ntmps90
  go_wp2_with (first
    | (go_at_call 119; refine (octet_Reader_Left.rd w0 _ g l false H.out).mono ?_; rintro e w1 ⟨rfl, rfl⟩)
    | (go_at_call 118; refine (octet_Reader_Raw.yes w0 _ g l l.length H.out HB.out (by omega) (Int.le_refl _) HL.out).mono ?_; rintro e w2 ⟨v, rfl, hR, hI2, hg2⟩; obtain ⟨A1, c1, rfl, hc1, hC1⟩ := Kd.R_reads hR; have HR := Aside0.mk hR; have HI2 := Aside0.mk hI2; have Hg2 := Aside0.mk hg2; clear hR hI2 hg2 hc1 hC1))
  go_ret
  have hR := HR.out
  have hI := HI2.out
  rw [Int.toNat_natCast, List.take_length] at hR
  rw [Int.toNat_natCast, List.drop_length] at hI
  exact ⟨_, rfl, by simpa using hR, hI, Hg2.out⟩
theorem octet_Reader_Rest.no (w0 w : World) (g : Nat) (l : List Int) (h : IsRd w0 w g l true) :
    Calls Try.prog 90 #[.pointer (some ⟨g, 0, none⟩)] w fun e w' => e = .returned (.slice none 0 0) ∧ IsRd w0 w' g l true ∧ w.grownBy w' (some g) := by
  have H := Aside0.mk h
  clear h
  go_enter Try.func90, Try.ntmps90
  go_wp2_with (first
    | (go_at_call 119; refine (octet_Reader_Left.rd w0 _ g l true H.out).mono ?_; rintro e w1 ⟨rfl, rfl⟩)
    | (go_at_call 118; refine (octet_Reader_Raw.no w0 _ g l true l.length H.out (Or.inl rfl)).mono ?_; rintro e w2 ⟨rfl, hI2, hg2⟩; have HI2 := Aside0.mk hI2; have Hg2 := Aside0.mk hg2; clear hI2 hg2))
  go_ret
  exact ⟨rfl, HI2.out, Hg2.out⟩
end Go.Proofs.Ytnmcoebjkfpmjaa.P
/-! Px100 -/
namespace Go.Proofs.Ytnmcoebjkfpmjaa.P
open Go.RowKit Go.Proofs.YtnmcoebjkfpmjaaW.PrintWords Go.Proofs.YtnmcoebjkfpmjaaW.PrintLast Go.Proofs.YtnmcoebjkfpmjaaW.PrintMore
attribute [local go_sem] max2_int min2_int max_two min_two max_three min_three max_four min_four   -- for this text's walks alone
set_option linter.unusedVariables false
set_option linter.unusedSimpArgs false
theorem field_sized.no (A0 : Option Addr) (c0 : Nat) (l0 : List Int) (n e : Int) (w : World) (h : (l0.length : Int) < n ∧ e = 2 ∨ (l0.length : Int) > n ∧ e = 3) :
    Calls Try.prog 99 #[.slice A0 l0.length c0, .int .i64 n] w fun e' w' => e' = .returned (.tuple #[.pointer none, .int .i64 e]) ∧ w = w' := by
  rcases h with ⟨h, rfl⟩ | ⟨h, rfl⟩
  · have h1 : decide ((l0.length : Int) < n) = true := decide_eq_true h
    clear h
    go_enter Try.func99, Try.ntmps99
    go_wp2
    go_ret2
    exact ⟨rfl, rfl⟩
  · have h1 : decide ((l0.length : Int) < n) = false := decide_eq_false (by omega)
    have h2 : decide (n < (l0.length : Int)) = true := decide_eq_true h
    clear h
    go_enter Try.func99, Try.ntmps99
    go_wp2
    go_ret2
    exact ⟨rfl, rfl⟩
theorem field_sized.yes (A0 : Option Addr) (c0 : Nat) (l0 : List Int) (n : Int) (w : World) (hr0 : Kd.C (Kd.int .u8) w A0 l0.length l0) (hc0 : l0.length ≤ c0) (hl : l0.length < 140737488355328) (h : (l0.length : Int) = n) :
    Calls Try.prog 99 #[.slice A0 l0.length c0, .int .i64 n] w fun e w' => ∃ (g : Nat) (w1 : World), e = .returned (.tuple #[.pointer (some ⟨g, 0, none⟩), .int .i64 0]) ∧ Below w.heap.size w w1 ∧ Below w1.heap.size w1 w' ∧ IsRd w1 w' g l0 false := by
  have HR := Aside0.mk hr0
  have HC := Aside0.mk hc0
  have HL := Aside0.mk hl
  have h1 : decide ((l0.length : Int) < n) = false := decide_eq_false (by omega)
  have h2 : decide (n < (l0.length : Int)) = false := decide_eq_false (by omega)
  clear hr0 hc0 hl h
  go_enter Try.func99, Try.ntmps99
  go_wp2_with (go_at_call 86; refine (octet_New.calls _ _ _ _ HR.out HC.out HL.out).mono ?_; rintro e w2 ⟨g, w1, rfl, hB, hB1, hI⟩; have HB := Aside0.mk hB; have HB1 := Aside0.mk hB1; have HI := Aside0.mk hI; clear hB hB1 hI)
  go_ret2
  exact ⟨g, w1, rfl, HB.out, HB1.out, HI.out⟩
theorem IsRd.ge {w0 W : World} {g : Nat} {l : List Int} {b : Bool} (h : IsRd w0 W g l b) : w0.heap.size ≤ g := by
  obtain ⟨A0, c0, hb, hg, h2⟩ := h
  exact hg
end Go.Proofs.Ytnmcoebjkfpmjaa.P
/-! Px30 -/
namespace Go.Proofs.Ytnmcoebjkfpmjaa.P
open Go.RowKit Go.Proofs.YtnmcoebjkfpmjaaW.PrintWords Go.Proofs.YtnmcoebjkfpmjaaW.PrintLast Go.Proofs.YtnmcoebjkfpmjaaW.PrintMore
attribute [local go_sem] max2_int min2_int max_two min_two max_three min_three max_four min_four   -- for this text's walks alone
set_option linter.unusedVariables false
set_option linter.unusedSimpArgs false
theorem IsRd.only {w0 W W1 : World} {g g' : Nat} {l : List Int} {b : Bool} (h : IsRd w0 W g l b) (hw : W.grownBy W1 (some g')) (hne : g ≠ g') : IsRd w0 W1 g l b := by
  obtain ⟨A0, c0, hb, h2⟩ := h
  exact ⟨A0, c0, blk_grown hb hw (fun e => hne (by injection e)), h2⟩
theorem IsRd.lt {w0 W : World} {g : Nat} {l : List Int} {b : Bool} (h : IsRd w0 W g l b) : g < W.heap.size := by
  obtain ⟨A0, c0, hb, h2⟩ := h
  exact blk_lt hb
end Go.Proofs.Ytnmcoebjkfpmjaa.P
/-! Lib -/
namespace Go.Proofs.Ytnmcoebjkfpmjaa.Lib
set_option linter.unusedSimpArgs false
set_option linter.unusedVariables false
open Go.RowKit Go.Proofs.Ytnmcoebjkfpmjaa.P Go.Proofs.YtnmcoebjkfpmjaaW.PrintWords Go.Proofs.YtnmcoebjkfpmjaaW.PrintLast
theorem and1 {x : Int} (h0 : 0 ≤ x) (h1 : x ≤ 255) : Go.bits .and .i64 x 1 = x % 2 := by
  have : ∀ j : Fin 256, Go.bits .and .i64 (j.val : Int) 1 = (j.val : Int) % 2 := by decide +kernel
  have h := this ⟨x.toNat, by omega⟩
  rwa [show ((x.toNat : Nat) : Int) = x by omega] at h
theorem tm2 {x : Int} (h0 : 0 ≤ x) : Int.tmod x 2 = x % 2 := Int.tmod_eq_emod_of_nonneg h0
def kindB (t : Int) (resp : Bool) (kind : Int) (n : Nat) : Bool :=
  if kind = 0 then !resp else if kind = 1 ∨ kind = 2 then true else if kind = 3 ∨ kind = 4 then (!resp && (t % 2 == 0) && (n == 4)) else if kind = 5 ∨ kind = 6 then (resp && (t % 2 == 0) && (n == 4))
  else if kind = 7 then (resp && (t % 2 == 0) && (n == 5)) else if kind = 8 ∨ kind = 9 then (t % 2 == 0) else false
def inB (t f ns nr : Int) (n : Nat) : Prop := 0 ≤ t ∧ t ≤ 255 ∧ 0 ≤ f ∧ f ≤ 254 ∧ f % 2 = 0 ∧ 0 ≤ ns ∧ ns ≤ 127 ∧ 0 ≤ nr ∧ nr ≤ 127 ∧ n ≤ 1040
instance (t f ns nr : Int) (n : Nat) : Decidable (inB t f ns nr n) := by unfold inB; infer_instance
def formB (t : Int) (resp : Bool) (form kind ns nr : Int) (n : Nat) : Bool :=
  if form = 0 then decide (kind = 0) && (t % 2 == 0) else if form = 1 then decide (0 ≤ kind ∧ kind ≤ 2 ∧ ns = 0 ∧ n = 0) && (t % 2 == 0) else if form = 2 then decide (ns = 0 ∧ nr = 0) && kindB t resp kind n else false
def mayB (t f : Int) (resp : Bool) (form kind ns nr : Int) (n : Nat) : Bool :=
  if inB t f ns nr n then formB t resp form kind ns nr n else false
section
variable (k : Nat) (t f : Int) (resp : Bool) (form kind ns nr : Int) (poll : Bool) (info : List Int)
theorem ten (x : Int) : x = 0 ∨ x = 1 ∨ x = 2 ∨ x = 3 ∨ x = 4 ∨ x = 5 ∨ x = 6 ∨ x = 7 ∨ x = 8 ∨ x = 9 ∨ (x ≠ 0 ∧ x ≠ 1 ∧ x ≠ 2 ∧ x ≠ 3 ∧ x ≠ 4 ∧ x ≠ 5 ∧ x ≠ 6 ∧ x ≠ 7 ∧ x ≠ 8 ∧ x ≠ 9) := by omega
theorem len_eq (n : Nat) (m : Nat) : ((n : Int) == (m : Int)) = (n == m) := by
  by_cases h : n = m
  · subst h; simp
  · rw [beq_eq_false_iff_ne.mpr h, beq_eq_false_iff_ne.mpr (by omega)]
theorem kind_pdu (h0 : 0 ≤ t) (h1 : t ≤ 255) : pdu_kind.f (k + 3) t f resp form kind ns nr poll info = some (kindB t resp kind info.length) := by
  unfold pdu_kind.f kindB
  rw [and1 h0 h1]
  have l4 := len_eq info.length 4
  have l5 := len_eq info.length 5
  have h2 : t % 2 = 0 ∨ t % 2 = 1 := by omega
  rcases ten kind with h | h | h | h | h | h | h | h | h | h | ⟨a0, a1, a2, a3, a4, a5, a6, a7, a8, a9⟩
  all_goals first | subst h | skip
  all_goals rcases h2 with h2 | h2 <;> rw [h2] <;> cases resp
  all_goals first | rfl | (simp only [pdu_kind.j0, pdu_kind.j1, pdu_kind.j2, l4, l5]; rfl) | (simp [pdu_kind.j0, pdu_kind.j1, pdu_kind.j2, *]; done) | (simp [pdu_kind.j0, pdu_kind.j1, pdu_kind.j2]; exact l4) | (simp [pdu_kind.j0, pdu_kind.j1, pdu_kind.j2]; exact l5)
theorem may_pdu_j (h0 : 0 ≤ t) (h1 : t ≤ 255) : pdu_May.j0 (k + 4) false t f resp form kind ns nr poll info = some (formB t resp form kind ns nr info.length) := by
  simp only [pdu_May.j0, formB, pdu_within.f, and1 h0 h1, kind_pdu k t f resp form kind ns nr poll info h0 h1]
  rw [if_neg (by decide)]
  by_cases f0 : form = 0
  · rw [if_pos f0, if_pos f0]; by_cases c : kind = 0 <;> simp [c]
  rw [if_neg f0, if_neg f0]
  by_cases f1 : form = 1
  · rw [if_pos f1, if_pos f1]
    by_cases c : kind ≥ 0
    · by_cases c2 : kind ≤ 2
      · by_cases c3 : ns = 0
        · by_cases c4 : info.length = 0
          · simp [c, c2, c3, c4]
          · simp [c, c2, c3]
            split <;> simp [*]
        · simp [c, c2, c3]
      · simp [c, c2]
    · simp [c]
  rw [if_neg f1, if_neg f1]
  by_cases f2 : form = 2
  · rw [if_pos f2, if_pos f2]
    by_cases c3 : ns = 0 <;> by_cases c4 : nr = 0 <;> simp [c3, c4]
  · rw [if_neg f2, if_neg f2]
theorem may_pdu : pdu_May.f (k + 4) t f resp form kind ns nr poll info = some (mayB t f resp form kind ns nr info.length) := by
  have hj : pdu_May.j0 (k + 4) true t f resp form kind ns nr poll info = some false := rfl
  unfold pdu_May.f mayB
  by_cases h : inB t f ns nr info.length
  · rw [if_pos h]
    obtain ⟨a, b, c, d, e, g, i, j, l, m⟩ := h
    have e1 : pdu_within.f t 255 = some true := by unfold pdu_within.f; rw [if_pos a, decide_eq_true b]
    have e2 : pdu_within.f f 254 = some true := by unfold pdu_within.f; rw [if_pos c, decide_eq_true d]
    have e3 : pdu_within.f ns 127 = some true := by unfold pdu_within.f; rw [if_pos g, decide_eq_true i]
    have e4 : pdu_within.f nr 127 = some true := by unfold pdu_within.f; rw [if_pos j, decide_eq_true l]
    have e5 : decide ((info.length : Int) > 1040) = false := decide_eq_false (by omega)
    rw [e1, e2, e3, e4, e5, and1 c (by omega)]
    simp only [Option.bind_some, if_true, may_pdu_j k t f resp form kind ns nr poll info a b]
    rw [if_neg (by omega)]
  · rw [if_neg h, hj]
    unfold pdu_within.f
    unfold inB at h
    by_cases c1 : t ≥ 0 ∧ t ≤ 255
    · by_cases c2 : f ≥ 0 ∧ f ≤ 254
      · rw [and1 c2.1 (by omega)]
        by_cases c3 : f % 2 = 1
        · simp [c1, c2, c3]
        · by_cases c4 : ns ≥ 0 ∧ ns ≤ 127
          · by_cases c5 : nr ≥ 0 ∧ nr ≤ 127
            · have e5 : decide ((info.length : Int) > 1040) = true := decide_eq_true (by omega)
              simp [c1, c2, c3, c4, c5]
              rw [decide_eq_true (by omega)]; exact hj
            · by_cases c6 : nr ≥ 0
              · simp [c1, c2, c3, c4, c6]; intro; omega
              · simp [c1, c2, c3, c4, c6]
          · by_cases c6 : ns ≥ 0
            · simp [c1, c2, c3, c6]; intro; omega
            · simp [c1, c2, c3, c6]
      · by_cases c6 : f ≥ 0
        · simp [c1, c6]; intro; omega
        · simp [c1, c6]
    · by_cases c6 : t ≥ 0
      · simp [c6]; intro; omega
      · simp [c6]
theorem mayU_ref (h0 : 0 ≤ t) : antiphonref6_mayU.f (k + 4) t f resp form kind ns nr poll info = some (decide (ns = 0 ∧ nr = 0) && kindB t resp kind info.length) := by
  unfold antiphonref6_mayU.f
  have hj : antiphonref6_mayU.j0 (k + 4) true t f resp form kind ns nr poll info = some false := rfl
  have hf : antiphonref6_mayU.j0 (k + 4) false t f resp form kind ns nr poll info = some (kindB t resp kind info.length) := by
    unfold kindB
    have l4 := len_eq info.length 4
    have l5 := len_eq info.length 5
    have h2 : t % 2 = 0 ∨ t % 2 = 1 := by omega
    have l4' : ((info.length : Int) = 4) = (info.length = 4) := by apply propext; omega
    have l5' : ((info.length : Int) = 5) = (info.length = 5) := by apply propext; omega
    rcases ten kind with h | h | h | h | h | h | h | h | h | h | ⟨a0, a1, a2, a3, a4, a5, a6, a7, a8, a9⟩
    all_goals first | subst h | skip
    all_goals rcases h2 with h2 | h2 <;> cases resp
    all_goals first | rfl | (simp [antiphonref6_mayU.j0, antiphonref6_mayU.j1, antiphonref6_mayU.j2, antiphonref6_mayU.j3, tm2 h0, l4', l5', h2, *]; done) | (simp [antiphonref6_mayU.j0, antiphonref6_mayU.j1, antiphonref6_mayU.j2, antiphonref6_mayU.j3, tm2 h0, l4', l5', h2]; split <;> simp [*])
  by_cases c3 : ns = 0
  · by_cases c4 : nr = 0
    · subst c3; subst c4
      rw [if_pos rfl]
      exact hf
    · rw [if_pos c3, bne_iff_ne.mpr c4, hj]; simp [c4]
  · rw [if_neg c3, hj]; simp [c3]
theorem may_ref : antiphonref6_May.f (k + 5) t f resp form kind ns nr poll info = some (mayB t f resp form kind ns nr info.length) := by
  have hj : antiphonref6_May.j0 (k + 5) true t f resp form kind ns nr poll info = some false := rfl
  have hf : 0 ≤ t → antiphonref6_May.j0 (k + 5) false t f resp form kind ns nr poll info = some (formB t resp form kind ns nr info.length) := by
    intro h0
    simp only [antiphonref6_May.j0, formB, tm2 h0, mayU_ref k t f resp form kind ns nr poll info h0]
    rw [if_neg (by decide)]
    by_cases f0 : form = 0
    · rw [if_pos f0, if_pos f0]; by_cases c : kind = 0 <;> simp [c]
    rw [if_neg f0, if_neg f0]
    by_cases f1 : form = 1
    · rw [if_pos f1, if_pos f1]
      by_cases c : kind ≥ 0
      · by_cases c2 : kind ≤ 2
        · by_cases c3 : ns = 0
          · by_cases c4 : info.length = 0
            · simp [c, c2, c3, c4]
            · simp [c, c2, c3]
              split <;> simp [*]
          · simp [c, c2, c3]
        · simp [c, c2]
      · simp [c]
    rw [if_neg f1, if_neg f1]
    by_cases f2 : form = 2
    · rw [if_pos f2, if_pos f2]; rfl
    · rw [if_neg f2, if_neg f2]
  unfold antiphonref6_May.f mayB
  by_cases h : inB t f ns nr info.length
  · rw [if_pos h]
    obtain ⟨a, b, c, d, e, g, i, j, l, m⟩ := h
    rw [if_neg (by omega), if_neg (by omega), if_neg (by omega), if_neg (by omega), tm2 c, if_neg (by omega), if_neg (by omega), if_neg (by omega), if_neg (by omega), if_neg (by omega), decide_eq_false (by omega)]
    exact hf a
  · rw [if_neg h, hj]
    unfold inB at h
    repeat' split
    all_goals first | rfl | skip
    rename_i h1 h2 h3 h4 h5 h6 h7 h8 h9
    rw [tm2 (by omega)] at h5
    rw [decide_eq_true (by omega)]
    exact hj
end
end Go.Proofs.Ytnmcoebjkfpmjaa.Lib
/-! Px103 -/
namespace Go.Proofs.Ytnmcoebjkfpmjaa.P
open Go.RowKit Go.Proofs.YtnmcoebjkfpmjaaW.PrintWords Go.Proofs.YtnmcoebjkfpmjaaW.PrintLast Go.Proofs.YtnmcoebjkfpmjaaW.PrintMore
attribute [local go_sem] max2_int min2_int max_two min_two max_three min_three max_four min_four   -- for this text's walks alone
set_option linter.unusedVariables false
set_option linter.unusedSimpArgs false
end Go.Proofs.Ytnmcoebjkfpmjaa.P
/-! Px104 -/
namespace Go.Proofs.Ytnmcoebjkfpmjaa.P
open Go.RowKit Go.Proofs.YtnmcoebjkfpmjaaW.PrintWords Go.Proofs.YtnmcoebjkfpmjaaW.PrintLast Go.Proofs.YtnmcoebjkfpmjaaW.PrintMore
attribute [local go_sem] max2_int min2_int max_two min_two max_three min_three max_four min_four   -- for this text's walks alone
set_option linter.unusedVariables false
set_option linter.unusedSimpArgs false
end Go.Proofs.Ytnmcoebjkfpmjaa.P
/-! Px105 -/
namespace Go.Proofs.Ytnmcoebjkfpmjaa.P
open Go.RowKit Go.Proofs.YtnmcoebjkfpmjaaW.PrintWords Go.Proofs.YtnmcoebjkfpmjaaW.PrintLast Go.Proofs.YtnmcoebjkfpmjaaW.PrintMore
attribute [local go_sem] max2_int min2_int max_two min_two max_three min_three max_four min_four   -- for this text's walks alone
set_option linter.unusedVariables false
set_option linter.unusedSimpArgs false
end Go.Proofs.Ytnmcoebjkfpmjaa.P
/-! Px39 -/
namespace Go.Proofs.Ytnmcoebjkfpmjaa.P
open Go.RowKit Go.Proofs.YtnmcoebjkfpmjaaW.PrintWords Go.Proofs.YtnmcoebjkfpmjaaW.PrintLast Go.Proofs.YtnmcoebjkfpmjaaW.PrintMore
attribute [local go_sem] max2_int min2_int max_two min_two max_three min_three max_four min_four   -- for this text's walks alone
set_option linter.unusedVariables false
set_option linter.unusedSimpArgs false
end Go.Proofs.Ytnmcoebjkfpmjaa.P
/-! Px34 -/
namespace Go.Proofs.Ytnmcoebjkfpmjaa.P
open Go.RowKit Go.Proofs.YtnmcoebjkfpmjaaW.PrintWords Go.Proofs.YtnmcoebjkfpmjaaW.PrintLast Go.Proofs.YtnmcoebjkfpmjaaW.PrintMore
attribute [local go_sem] max2_int min2_int max_two min_two max_three min_three max_four min_four   -- for this text's walks alone
set_option linter.unusedVariables false
set_option linter.unusedSimpArgs false
end Go.Proofs.Ytnmcoebjkfpmjaa.P
/-! Px22 -/
namespace Go.Proofs.Ytnmcoebjkfpmjaa.P
open Go.RowKit Go.Proofs.YtnmcoebjkfpmjaaW.PrintWords Go.Proofs.YtnmcoebjkfpmjaaW.PrintLast Go.Proofs.YtnmcoebjkfpmjaaW.PrintMore
set_option linter.unusedVariables false
set_option linter.unusedSimpArgs false
set_option maxHeartbeats 4000000 in
set_option maxRecDepth 100000 in
theorem rt_New.no (w : World) (a b : Int) (h : a < 1 ∨ 100 < a ∨ b < 1 ∨ 10000 < b) :
    Calls Try.prog 74 #[.int .i64 a, .int .i64 b] w fun e w' => e = .returned (.tuple #[.pointer none, .int .i64 1]) ∧ Below w.heap.size w w' := by
  have HB := Aside0.mk (Below.refl w.heap.size w)
  have H := Aside0.mk h
  clear h
  by_cases h1 : a < 1
  · have d1 : decide (a < 1) = true := decide_eq_true h1
    go_enter Try.func74, Try.ntmps74
    go_wp2
    go_ret2
    exact ⟨rfl, by first | exact HB.out | exact pw_below_drewN HB.out _ | exact below_drew1 HB.out⟩
  have d1 : decide (a < 1) = false := decide_eq_false h1
  by_cases h2 : 100 < a
  · have d2 : decide (100 < a) = true := decide_eq_true h2
    go_enter Try.func74, Try.ntmps74
    go_wp2
    go_ret2
    exact ⟨rfl, by first | exact HB.out | exact pw_below_drewN HB.out _ | exact below_drew1 HB.out⟩
  have d2 : decide (100 < a) = false := decide_eq_false h2
  by_cases h3 : b < 1
  · have d3 : decide (b < 1) = true := decide_eq_true h3
    go_enter Try.func74, Try.ntmps74
    go_wp2
    go_ret2
    exact ⟨rfl, by first | exact HB.out | exact pw_below_drewN HB.out _ | exact below_drew1 HB.out⟩
  have d3 : decide (b < 1) = false := decide_eq_false h3
  have d4 : decide (10000 < b) = true := decide_eq_true (by have := H.out; omega)
  go_enter Try.func74, Try.ntmps74
  go_wp2
  go_ret2
  exact ⟨rfl, by first | exact HB.out | exact pw_below_drewN HB.out _ | exact below_drew1 HB.out⟩
set_option maxHeartbeats 4000000 in
set_option maxRecDepth 100000 in
theorem rt_New.yes (w : World) (a b : Int) (h1 : 1 ≤ a) (h2 : a ≤ 100) (h3 : 1 ≤ b) (h4 : b ≤ 10000) :
    Calls Try.prog 74 #[.int .i64 a, .int .i64 b] w fun e w' => e = .returned (.tuple #[.pointer (some ⟨w.heap.size, 0, none⟩), .int .i64 0]) ∧ Below w.heap.size w w' ∧ IsS102 w w' w.heap.size a b 0 0 0 := by
  have HB := Aside0.mk (Below.refl w.heap.size w)
  have d1 : decide (a < 1) = false := decide_eq_false (by omega)
  have d2 : decide (100 < a) = false := decide_eq_false (by omega)
  have d3 : decide (b < 1) = false := decide_eq_false (by omega)
  have d4 : decide (10000 < b) = false := decide_eq_false (by omega)
  clear h1 h2 h3 h4
  go_enter Try.func74, Try.ntmps74
  go_wp2
  go_ret2
  exact ⟨rfl, below_alloc HB.out _, blk_new w _, Nat.le_refl _⟩
theorem rt_cmd : antiphonref10_command.f 20 0 0 2 true [] = some (0, 0, false, 2, 2, 0, 0, true, []) := by rfl
theorem w01 : wrap64 (0 + 1) = 1 := by unfold wrap64; omega
theorem w10 : wrap64 (1 - 1) = 0 := by unfold wrap64; omega
theorem rt_start_no (tr wa se le : Int) : antiphonref10_Twin_Start.f 20 tr wa 1 se le = some (0, 0, false, 0, 0, 0, 0, false, [], false, tr, wa, 1, se, le) := by
  unfold antiphonref10_Twin_Start.f; rw [if_pos rfl]
theorem rt_start_yes (tr wa st se le : Int) (h : st ≠ 1) : antiphonref10_Twin_Start.f 20 tr wa st se le = some (0, 0, false, 2, 2, 0, 0, true, [], true, tr, wa, 1, 1, wa) := by
  unfold antiphonref10_Twin_Start.f antiphonref10_Twin_ask.f; rw [if_neg h, rt_cmd]; simp only [Option.bind_some, w01]
theorem rt_tick_idle (tr wa st se le : Int) (h : st ≠ 1) : antiphonref10_Twin_Tick.f 20 tr wa st se le = some (0, 0, false, 0, 0, 0, 0, false, [], false, tr, wa, st, se, le) := by
  unfold antiphonref10_Twin_Tick.f; rw [if_neg h]
theorem rt_tick_wait (tr wa se le : Int) (h : 0 < le - 1) (h1 : le ≤ 10000) : antiphonref10_Twin_Tick.f 20 tr wa 1 se le = some (0, 0, false, 0, 0, 0, 0, false, [], false, tr, wa, 1, se, le - 1) := by
  have hw : wrap64 (le - 1) = le - 1 := by unfold wrap64; omega
  unfold antiphonref10_Twin_Tick.f; rw [if_pos rfl, hw, if_pos h]
theorem rt_tick_alone (tr wa se le : Int) (h : le = 1) (hs : tr ≤ se) : antiphonref10_Twin_Tick.f 20 tr wa 1 se le = some (0, 0, false, 0, 0, 0, 0, false, [], false, tr, wa, 2, se, 0) := by
  subst h
  unfold antiphonref10_Twin_Tick.f; rw [if_pos rfl, w10, if_neg (by decide), if_pos hs]
theorem rt_tick_more (tr wa se le : Int) (h : le = 1) (hs : se < tr) (h0 : 0 ≤ se ∧ se ≤ 1000) : antiphonref10_Twin_Tick.f 20 tr wa 1 se le = some (0, 0, false, 2, 2, 0, 0, true, [], true, tr, wa, 1, se + 1, wa) := by
  subst h
  have hw : wrap64 (se + 1) = se + 1 := by unfold wrap64; omega
  unfold antiphonref10_Twin_Tick.f antiphonref10_Twin_ask.f; rw [if_pos rfl, w10, if_neg (by decide), if_neg (by omega), rt_cmd]
  simp only [Option.bind_some, hw]
theorem state_q {W : World} {g : Nat} {tr wa st se si : Int} (h : IsTw W g tr wa st se si) (n : Nat) : Calls Try.prog 73 #[.pointer (some ⟨g, 0, none⟩)] (W.drewN n) fun e w'' => e = .returned (.int .i64 st) ∧ ∃ m, w'' = W.drewN m := (twin_State.rd (W.drewN n) g tr wa st se si h).mono fun e w' h => ⟨h.1, n, h.2.symm⟩
theorem IsTw.keep {W W1 : World} {g gm : Nat} {tr wa st se si : Int} (h : IsTw W g tr wa st se si) (hk : KeepBut W W1 gm none) (hne : g ≠ gm) : IsTw W1 g tr wa st se si := (hk.2 g (blk_lt h) hne (by simp)).trans h
theorem blk_keep {W W1 : World} {b gm : Nat} {o : Obj} (h : W.heap[b]? = some o) (hk : KeepBut W W1 gm none) (hne : b ≠ gm) : W1.heap[b]? = some o := (hk.2 b (blk_lt h) hne (by simp)).trans h
theorem blk_only {W W1 : World} {b g : Nat} {o : Obj} (h : W.heap[b]? = some o) (hk : W.grownBy W1 (some g)) (hne : b ≠ g) : W1.heap[b]? = some o := (hk.block b (blk_lt h) (fun e => hne (by injection e))).trans h
theorem at_deed {w : World} {A : Option Addr} {n : Nat} {xs : List (Int × S25)} (h : Kd.C (Kd.pair (Kd.int .i64) k25) w A n xs) (i : Int) (h0 : 0 ≤ i) (h1 : i < n) : ∃ (ad : Addr) (dd : Int) (x : S25) (A8 : Option Addr) (c8 : Nat), A = some ad ∧ w.cell? (ad.add (i.toNat * 10)) = some (.int .i64 dd) ∧
    (w.cell? ⟨(ad.add (i.toNat * 10)).block, (ad.add (i.toNat * 10)).off + 1, none⟩ = some (.int .i64 x.f0) ∧ w.cell? ⟨(ad.add (i.toNat * 10)).block, (ad.add (i.toNat * 10)).off + 2, none⟩ = some (.int .i64 x.f1) ∧ w.cell? ⟨(ad.add (i.toNat * 10)).block, (ad.add (i.toNat * 10)).off + 3, none⟩ = some (.bool x.f2) ∧ w.cell? ⟨(ad.add (i.toNat * 10)).block, (ad.add (i.toNat * 10)).off + 4, none⟩ = some (.int .i64 x.f3) ∧ w.cell? ⟨(ad.add (i.toNat * 10)).block, (ad.add (i.toNat * 10)).off + 5, none⟩ = some (.int .i64 x.f4) ∧ w.cell? ⟨(ad.add (i.toNat * 10)).block, (ad.add (i.toNat * 10)).off + 6, none⟩ = some (.int .i64 x.f5) ∧ w.cell? ⟨(ad.add (i.toNat * 10)).block, (ad.add (i.toNat * 10)).off + 7, none⟩ = some (.int .i64 x.f6) ∧ w.cell? ⟨(ad.add (i.toNat * 10)).block, (ad.add (i.toNat * 10)).off + 8, none⟩ = some (.bool x.f7) ∧ w.cell? ⟨(ad.add (i.toNat * 10)).block, (ad.add (i.toNat * 10)).off + 9, none⟩ = some (.slice A8 x.f8.length c8)) ∧ x.f8.length ≤ c8 ∧ Kd.C (Kd.int .u8) w A8 x.f8.length x.f8 := by
  obtain ⟨ad, c, e, _, hK, hc0⟩ := Kd.C_get h (0, z25) i h0 h1
  have hc : ∀ j u, c[j]? = some u → w.cell? (ad.add (i.toNat * 10 + j)) = some u := hc0
  obtain ⟨c1, c2, rfl, rfl, hK2⟩ := hK
  obtain ⟨A8, c8, rfl, l8, g8⟩ := k25_open hK2
  exact ⟨ad, _, (xs.getD i.toNat (0, z25)).2, A8, c8, e, hc 0 _ rfl, ⟨by rw [← add_field _ _ 1 (by omega)]; exact hc 1 _ rfl, by rw [← add_field _ _ 2 (by omega)]; exact hc 2 _ rfl, by rw [← add_field _ _ 3 (by omega)]; exact hc 3 _ rfl, by rw [← add_field _ _ 4 (by omega)]; exact hc 4 _ rfl, by rw [← add_field _ _ 5 (by omega)]; exact hc 5 _ rfl, by rw [← add_field _ _ 6 (by omega)]; exact hc 6 _ rfl, by rw [← add_field _ _ 7 (by omega)]; exact hc 7 _ rfl, by rw [← add_field _ _ 8 (by omega)]; exact hc 8 _ rfl, by rw [← add_field _ _ 9 (by omega)]; exact hc 9 _ rfl⟩, l8, g8⟩
theorem info_lt {w : World} {A : Option Addr} {l : List Int} (h : Kd.C (Kd.int .u8) w A l.length l) : ∀ ad, A = some ad → 0 < l.length → ad.block < w.heap.size := by
  intro ad e hl
  obtain ⟨ad', e', hc⟩ := Kd.at_int h 0 (by omega) (by omega)
  rw [e] at e'
  injection e' with e'
  subst e'
  exact World.block_lt_of_cell? w _ hc
theorem rt_hear_deaf (tr wa st se le x0 x1 : Int) (x2 : Bool) (x3 x4 x5 x6 : Int) (x7 : Bool) (l : List Int) (h : st ≠ 1) : antiphonref10_Twin_Hear.f 5 tr wa st se le x0 x1 x2 x3 x4 x5 x6 x7 l = some (false, tr, wa, st, se, le) := by
  unfold antiphonref10_Twin_Hear.f; rw [if_neg h]
theorem rt_hear (tr wa se le x0 x1 : Int) (x2 : Bool) (x3 x4 x5 x6 : Int) (x7 : Bool) (l : List Int) (b : Bool) (hb : (Lib.mayB x0 x1 x2 x3 x4 x5 x6 l.length && ansB x0 x1 x2 x3 x4 x7) = b) : antiphonref10_Twin_Hear.f 5 tr wa 1 se le x0 x1 x2 x3 x4 x5 x6 x7 l = some (b, tr, wa, heardI b, se, le) := by
  subst hb
  unfold antiphonref10_Twin_Hear.f
  rw [if_pos rfl, Lib.may_ref 0, Option.bind_some]
  cases Lib.mayB x0 x1 x2 x3 x4 x5 x6 l.length with
  | false => simp [heardI]
  | true =>
    unfold ansB heardI
    by_cases h3 : x3 = 2 <;> by_cases h4 : x4 = 2 <;> by_cases h0 : x0 = 0 <;> by_cases h1 : x1 = 0 <;> cases x2 <;> cases x7 <;> simp [h3, h4, h0, h1]
def antiphonlaw14_TwinPlays.f (a0 a1 : Int) (l2 : List (Int × S25)) : Option Bool := some true
set_option maxHeartbeats 16000000 in
set_option maxRecDepth 100000 in
theorem antiphonlaw14_TwinPlays.calls (a0 a1 : Int) (A2 : Option Addr) (c2 : Nat) (l2 : List (Int × S25)) (r : Bool) (w : World) (hr2 : Kd.C (Kd.pair (Kd.int .i64) k25) w A2 l2.length l2) (hc2 : l2.length ≤ c2) (h : antiphonlaw14_TwinPlays.f a0 a1 l2 = some r) :
    Calls Try.prog 21 #[.int .i64 a0, .int .i64 a1, .slice A2 l2.length c2] w fun e w' => e = .returned (.bool r) ∧ Below w.heap.size w w' := by
  obtain rfl := Option.some.inj h
  have HR := Aside0.mk hr2
  clear h hr2
  go_enter Try.func21, Try.ntmps21
  go_wp2_with fail
  refine (antiphonlaw14_awake.calls _).mono ?_
  rintro e wa ⟨rfl, hBa⟩
  have HBa := Aside0.mk hBa
  clear hBa
  by_cases hl : l2.length ≤ 200
  case neg =>
    have hl' : decide (200 < l2.length) = true := decide_eq_true (by omega)
    go_wp2_with fail
    go_ret
    exact ⟨rfl, HBa.out⟩
  have hl' : decide (200 < l2.length) = false := decide_eq_false (by omega)
  by_cases hv : 1 ≤ a0 ∧ a0 ≤ 100 ∧ 1 ≤ a1 ∧ a1 ≤ 10000
  case neg =>
    have HV := Aside0.mk (show a0 < 1 ∨ 100 < a0 ∨ a1 < 1 ∨ 10000 < a1 by omega)
    clear hv
    go_wp2_with fail
    refine (twin_New.no _ a0 a1 HV.out).mono ?_
    rintro e w1 ⟨rfl, hB1⟩
    have HB1 := Aside0.mk (below_step HBa.out hB1)
    clear hB1
    go_wp2_with fail
    refine (rt_New.no _ a0 a1 HV.out).mono ?_
    rintro e w2 ⟨rfl, hB2⟩
    have HB2 := Aside0.mk (below_step HB1.out hB2)
    clear hB2
    go_wp2_with fail
    go_ret
    exact ⟨rfl, HB2.out⟩
  have HV := Aside0.mk hv
  clear hv
  go_wp2_with fail
  refine (twin_New.yes _ a0 a1 HV.out.1 HV.out.2.1 HV.out.2.2.1 HV.out.2.2.2).mono ?_
  rintro e w1 ⟨rfl, hB1, hT1⟩
  have hge := HBa.out.size
  generalize hg : wa.heap.size = g at hT1 hge
  have HB1 := Aside0.mk (below_step HBa.out hB1)
  have HT1 := Aside0.mk hT1
  have HGE := Aside0.mk hge
  clear hB1 hT1 hg hge
  go_wp2_with fail
  refine (rt_New.yes _ a0 a1 HV.out.1 HV.out.2.1 HV.out.2.2.1 HV.out.2.2.2).mono ?_
  rintro e w2 ⟨rfl, hB2, hS2⟩
  have HT := Aside0.mk (HT1.out.below hB2)
  have hne : g ≠ w1.heap.size := Nat.ne_of_lt HT1.out.lt
  have hgm := HB1.out.size
  generalize hm : w1.heap.size = gm at hS2 hne hgm
  have HS := Aside0.mk (show IsS102 w w2 gm a0 a1 0 0 0 from ⟨hS2.1, hgm⟩)
  have HB := Aside0.mk (below_step HB1.out hB2)
  have HNE := Aside0.mk hne
  clear hB2 hS2 hne hgm hm HT1 HB1 HBa
  go_wp2_with fail
  go_loopw [11] (fun v11 wr => ∃ (j : Nat) (st se si le : Int), v11 = .int .i64 j ∧ j ≤ l2.length ∧ Aside0 ((st = 1 → le = a1 - si ∧ 0 ≤ si ∧ si < a1) ∧ 0 ≤ se ∧ se ≤ a0) ∧ Aside0 (IsTw wr g a0 a1 st se si) ∧ Aside0 (IsS102 w wr gm a0 a1 st se le) ∧ Aside0 (Below w.heap.size w wr)) (fun v11 _ => l2.length - (intOf v11).toNat)
  case atStart => exact ⟨0, 0, 0, 0, 0, rfl, Nat.zero_le _, ⟨⟨fun h => absurd h (by decide), Int.le_refl _, by have := HV.out; omega⟩⟩, HT, HS, HB⟩
  case round =>
    clear HT HS HB
    obtain ⟨j, st, se, si, le, rfl, hj, HI, HT, HS, HB⟩ := hrel
    by_cases hlt : j < l2.length
    case neg =>
      obtain rfl : j = l2.length := by omega
      go_wp2_with fail
      go_ret
      exact ⟨rfl, HB.out⟩
    obtain ⟨ad, dd, x, A8, c8, ead, hq0, hq, hc8, hC8⟩ := at_deed HR.out j (by omega) (by omega)
    cases ead
    rw [Int.toNat_natCast] at hq0 hq
    have q0 := pw_cell_below HB.out hq0
    have HQ0 := Aside0.mk hq0
    have HQ := Aside0.mk (And.intro hq (And.intro hc8 hC8))
    clear hq0 hq hc8 hC8
    by_cases h1 : dd ≤ 1
    · have e1 : decide (dd ≤ 1) = true := decide_eq_true h1
      clear h1
      by_cases hst : st = 1
      · subst hst
        have HI1 := Aside0.mk (HI.out.1 rfl)
        have HI2 := Aside0.mk HI.out.2
        clear HI
        go_wp2_with fail
        refine (twin_Start.no _ g a0 a1 se si HT.out (by have := HV.out; omega)).mono ?_
        rintro e w3 ⟨rfl, hT3, hG3⟩
        have HT3 := Aside0.mk hT3
        have HS3 := Aside0.mk (HS.out.grown hG3 (fun e => HNE.out (by injection e with e; exact e.symm)))
        have HB3 := Aside0.mk (below_tw HB.out hG3 HGE.out)
        have hgm3 : gm ≠ w3.heap.size := Nat.ne_of_lt HS3.out.lt
        clear hT3 hG3 HT HS HB q0
        go_wp2_with fail
        have hp := blk_new w3 (.cells #[.int .i64 0, .int .i64 0, .bool false, .int .i64 0, .int .i64 0, .int .i64 0, .int .i64 0, .bool false, .slice none 0 0] 25 (0, 0))
        have hT4 := HT3.out.below (below_alloc (Below.refl _ _) (.cells #[.int .i64 0, .int .i64 0, .bool false, .int .i64 0, .int .i64 0, .int .i64 0, .int .i64 0, .bool false, .slice none 0 0] 25 (0, 0)))
        have hS4 := HS3.out.alloc (.cells #[.int .i64 0, .int .i64 0, .bool false, .int .i64 0, .int .i64 0, .int .i64 0, .int .i64 0, .bool false, .slice none 0 0] 25 (0, 0))
        have hB4 := below_alloc HB3.out (.cells #[.int .i64 0, .int .i64 0, .bool false, .int .i64 0, .int .i64 0, .int .i64 0, .int .i64 0, .bool false, .slice none 0 0] 25 (0, 0))
        generalize w3.alloc (.cells #[.int .i64 0, .int .i64 0, .bool false, .int .i64 0, .int .i64 0, .int .i64 0, .int .i64 0, .bool false, .slice none 0 0] 25 (0, 0)) = w4 at hp hT4 hS4 hB4 ⊢
        generalize w3.heap.size = b1 at hp hgm3 ⊢
        refine (antiphonref10_Twin_Start.calls 20 gm a0 a1 1 se le 0 0 false 0 0 0 0 false [] false a0 a1 1 se le w _ hS4 hB4 (rt_start_no a0 a1 se le)).mono ?_
        rintro e w5 ⟨v8, rfl, hR, hS5, hB5, hK5⟩
        obtain ⟨A9, c9, rfl, hc9, hC9⟩ : ∃ A c, v8 = .slice A 0 c ∧ 0 ≤ c ∧ Kd.C (Kd.int .u8) w5 A 0 [] := Kd.R_reads hR
        have HT5 := Aside0.mk (hT4.keep hK5 HNE.out)
        have HS5 := Aside0.mk hS5
        have HB5 := Aside0.mk hB5
        have HP5 := Aside0.mk (blk_keep hp hK5 hgm3.symm)
        have HC9 := Aside0.mk (And.intro hC9 hc9)
        clear hp hT4 hS4 hB4 hR hS5 hB5 hK5 hgm3 hC9 hc9 HT3 HS3 HB3
        have k0 : ∀ o, (w5.alloc o).cell? ⟨b1, 0, none⟩ = some (.int .i64 0) := fun o => (blk_cell (blk_alloc HP5.out o) 0).trans rfl
        have k1 : ∀ o, (w5.alloc o).cell? ⟨b1, 1, none⟩ = some (.int .i64 0) := fun o => (blk_cell (blk_alloc HP5.out o) 1).trans rfl
        have k2 : ∀ o, (w5.alloc o).cell? ⟨b1, 2, none⟩ = some (.bool false) := fun o => (blk_cell (blk_alloc HP5.out o) 2).trans rfl
        have k3 : ∀ o, (w5.alloc o).cell? ⟨b1, 3, none⟩ = some (.int .i64 0) := fun o => (blk_cell (blk_alloc HP5.out o) 3).trans rfl
        have k4 : ∀ o, (w5.alloc o).cell? ⟨b1, 4, none⟩ = some (.int .i64 0) := fun o => (blk_cell (blk_alloc HP5.out o) 4).trans rfl
        have k5 : ∀ o, (w5.alloc o).cell? ⟨b1, 5, none⟩ = some (.int .i64 0) := fun o => (blk_cell (blk_alloc HP5.out o) 5).trans rfl
        have k6 : ∀ o, (w5.alloc o).cell? ⟨b1, 6, none⟩ = some (.int .i64 0) := fun o => (blk_cell (blk_alloc HP5.out o) 6).trans rfl
        have k7 : ∀ o, (w5.alloc o).cell? ⟨b1, 7, none⟩ = some (.bool false) := fun o => (blk_cell (blk_alloc HP5.out o) 7).trans rfl
        have k8 : ∀ o, (w5.alloc o).cell? ⟨b1, 8, none⟩ = some (.slice none 0 0) := fun o => (blk_cell (blk_alloc HP5.out o) 8).trans rfl
        have z0 : (w5.alloc (.cells #[.int .i64 0, .int .i64 0, .bool false, .int .i64 0, .int .i64 0, .int .i64 0, .int .i64 0, .bool false, .slice A9 0 c9] 25 (0, 0))).cell? ⟨w5.heap.size, 0, none⟩ = some (.int .i64 0) := (blk_cell (blk_new w5 _) 0).trans rfl
        have z1 : (w5.alloc (.cells #[.int .i64 0, .int .i64 0, .bool false, .int .i64 0, .int .i64 0, .int .i64 0, .int .i64 0, .bool false, .slice A9 0 c9] 25 (0, 0))).cell? ⟨w5.heap.size, 1, none⟩ = some (.int .i64 0) := (blk_cell (blk_new w5 _) 1).trans rfl
        have z2 : (w5.alloc (.cells #[.int .i64 0, .int .i64 0, .bool false, .int .i64 0, .int .i64 0, .int .i64 0, .int .i64 0, .bool false, .slice A9 0 c9] 25 (0, 0))).cell? ⟨w5.heap.size, 2, none⟩ = some (.bool false) := (blk_cell (blk_new w5 _) 2).trans rfl
        have z3 : (w5.alloc (.cells #[.int .i64 0, .int .i64 0, .bool false, .int .i64 0, .int .i64 0, .int .i64 0, .int .i64 0, .bool false, .slice A9 0 c9] 25 (0, 0))).cell? ⟨w5.heap.size, 3, none⟩ = some (.int .i64 0) := (blk_cell (blk_new w5 _) 3).trans rfl
        have z4 : (w5.alloc (.cells #[.int .i64 0, .int .i64 0, .bool false, .int .i64 0, .int .i64 0, .int .i64 0, .int .i64 0, .bool false, .slice A9 0 c9] 25 (0, 0))).cell? ⟨w5.heap.size, 4, none⟩ = some (.int .i64 0) := (blk_cell (blk_new w5 _) 4).trans rfl
        have z5 : (w5.alloc (.cells #[.int .i64 0, .int .i64 0, .bool false, .int .i64 0, .int .i64 0, .int .i64 0, .int .i64 0, .bool false, .slice A9 0 c9] 25 (0, 0))).cell? ⟨w5.heap.size, 5, none⟩ = some (.int .i64 0) := (blk_cell (blk_new w5 _) 5).trans rfl
        have z6 : (w5.alloc (.cells #[.int .i64 0, .int .i64 0, .bool false, .int .i64 0, .int .i64 0, .int .i64 0, .int .i64 0, .bool false, .slice A9 0 c9] 25 (0, 0))).cell? ⟨w5.heap.size, 6, none⟩ = some (.int .i64 0) := (blk_cell (blk_new w5 _) 6).trans rfl
        have z7 : (w5.alloc (.cells #[.int .i64 0, .int .i64 0, .bool false, .int .i64 0, .int .i64 0, .int .i64 0, .int .i64 0, .bool false, .slice A9 0 c9] 25 (0, 0))).cell? ⟨w5.heap.size, 7, none⟩ = some (.bool false) := (blk_cell (blk_new w5 _) 7).trans rfl
        have z8 : (w5.alloc (.cells #[.int .i64 0, .int .i64 0, .bool false, .int .i64 0, .int .i64 0, .int .i64 0, .int .i64 0, .bool false, .slice A9 0 c9] 25 (0, 0))).cell? ⟨w5.heap.size, 8, none⟩ = some (.slice A9 0 c9) := (blk_cell (blk_new w5 _) 8).trans rfl
        go_wp2_with fail
        refine (antiphonref6_Same.calls 20 0 0 false 0 0 0 0 false none 0 [] 0 0 false 0 0 0 0 false A9 c9 [] true _ (Kd.C_nil _ _) (by decide) (Kd.C_alloc HC9.out.1 _) HC9.out.2 rfl).mono ?_
        rintro e w6 ⟨rfl, hB6⟩
        have HT6 := Aside0.mk ((HT5.out.below (below_alloc (Below.refl _ _) _)).below hB6)
        have HS6 := Aside0.mk ((HS5.out.alloc _).below hB6)
        have HB6 := Aside0.mk (below_step (below_alloc HB5.out _) hB6)
        clear hB6 HT5 HS5 HB5 HP5 HC9 k0 z0 k1 z1 k2 z2 k3 z3 k4 z4 k5 z5 k6 z6 k7 z7 k8 z8
        have m2 := (blk_cell HS6.out.1 2).trans rfl
        go_wp2_with fail
        go_quiet (first | exact state_q HT6.out _)
        go_wp2_with fail
        exact ⟨⟨j + 1, 1, se, si, le, by go_num, by omega, ⟨⟨fun _ => HI1.out, HI2.out⟩⟩, ⟨HT6.out⟩, ⟨HS6.out.drewN _⟩, ⟨pw_below_drewN HB6.out _⟩⟩, by simp [intOf]; omega⟩
      · have HST := Aside0.mk hst
        have HI2 := Aside0.mk HI.out.2
        clear hst HI
        go_wp2_with fail
        refine (twin_Start.yes _ g a0 a1 st se si HT.out (by have := HV.out; omega) HST.out).mono ?_
        rintro e w3 ⟨rfl, hT3, hG3⟩
        have HT3 := Aside0.mk hT3
        have HS3 := Aside0.mk (HS.out.grown hG3 (fun e => HNE.out (by injection e with e; exact e.symm)))
        have HB3 := Aside0.mk (below_tw HB.out hG3 HGE.out)
        have hgm3 : gm ≠ w3.heap.size := Nat.ne_of_lt HS3.out.lt
        clear hT3 hG3 HT HS HB q0
        go_wp2_with fail
        have hp := blk_new w3 (.cells #[.int .i64 0, .int .i64 0, .bool false, .int .i64 2, .int .i64 2, .int .i64 0, .int .i64 0, .bool true, .slice none 0 0] 25 (0, 0))
        have hT4 := HT3.out.below (below_alloc (Below.refl _ _) (.cells #[.int .i64 0, .int .i64 0, .bool false, .int .i64 2, .int .i64 2, .int .i64 0, .int .i64 0, .bool true, .slice none 0 0] 25 (0, 0)))
        have hS4 := HS3.out.alloc (.cells #[.int .i64 0, .int .i64 0, .bool false, .int .i64 2, .int .i64 2, .int .i64 0, .int .i64 0, .bool true, .slice none 0 0] 25 (0, 0))
        have hB4 := below_alloc HB3.out (.cells #[.int .i64 0, .int .i64 0, .bool false, .int .i64 2, .int .i64 2, .int .i64 0, .int .i64 0, .bool true, .slice none 0 0] 25 (0, 0))
        generalize w3.alloc (.cells #[.int .i64 0, .int .i64 0, .bool false, .int .i64 2, .int .i64 2, .int .i64 0, .int .i64 0, .bool true, .slice none 0 0] 25 (0, 0)) = w4 at hp hT4 hS4 hB4 ⊢
        generalize w3.heap.size = b1 at hp hgm3 ⊢
        refine (antiphonref10_Twin_Start.calls 20 gm a0 a1 st se le 0 0 false 2 2 0 0 true [] true a0 a1 1 1 a1 w _ hS4 hB4 (rt_start_yes a0 a1 st se le HST.out)).mono ?_
        rintro e w5 ⟨v8, rfl, hR, hS5, hB5, hK5⟩
        obtain ⟨A9, c9, rfl, hc9, hC9⟩ : ∃ A c, v8 = .slice A 0 c ∧ 0 ≤ c ∧ Kd.C (Kd.int .u8) w5 A 0 [] := Kd.R_reads hR
        have HT5 := Aside0.mk (hT4.keep hK5 HNE.out)
        have HS5 := Aside0.mk hS5
        have HB5 := Aside0.mk hB5
        have HP5 := Aside0.mk (blk_keep hp hK5 hgm3.symm)
        have HC9 := Aside0.mk (And.intro hC9 hc9)
        clear hp hT4 hS4 hB4 hR hS5 hB5 hK5 hgm3 hC9 hc9 HT3 HS3 HB3
        have k0 : ∀ o, (w5.alloc o).cell? ⟨b1, 0, none⟩ = some (.int .i64 0) := fun o => (blk_cell (blk_alloc HP5.out o) 0).trans rfl
        have k1 : ∀ o, (w5.alloc o).cell? ⟨b1, 1, none⟩ = some (.int .i64 0) := fun o => (blk_cell (blk_alloc HP5.out o) 1).trans rfl
        have k2 : ∀ o, (w5.alloc o).cell? ⟨b1, 2, none⟩ = some (.bool false) := fun o => (blk_cell (blk_alloc HP5.out o) 2).trans rfl
        have k3 : ∀ o, (w5.alloc o).cell? ⟨b1, 3, none⟩ = some (.int .i64 2) := fun o => (blk_cell (blk_alloc HP5.out o) 3).trans rfl
        have k4 : ∀ o, (w5.alloc o).cell? ⟨b1, 4, none⟩ = some (.int .i64 2) := fun o => (blk_cell (blk_alloc HP5.out o) 4).trans rfl
        have k5 : ∀ o, (w5.alloc o).cell? ⟨b1, 5, none⟩ = some (.int .i64 0) := fun o => (blk_cell (blk_alloc HP5.out o) 5).trans rfl
        have k6 : ∀ o, (w5.alloc o).cell? ⟨b1, 6, none⟩ = some (.int .i64 0) := fun o => (blk_cell (blk_alloc HP5.out o) 6).trans rfl
        have k7 : ∀ o, (w5.alloc o).cell? ⟨b1, 7, none⟩ = some (.bool true) := fun o => (blk_cell (blk_alloc HP5.out o) 7).trans rfl
        have k8 : ∀ o, (w5.alloc o).cell? ⟨b1, 8, none⟩ = some (.slice none 0 0) := fun o => (blk_cell (blk_alloc HP5.out o) 8).trans rfl
        have z0 : (w5.alloc (.cells #[.int .i64 0, .int .i64 0, .bool false, .int .i64 2, .int .i64 2, .int .i64 0, .int .i64 0, .bool true, .slice A9 0 c9] 25 (0, 0))).cell? ⟨w5.heap.size, 0, none⟩ = some (.int .i64 0) := (blk_cell (blk_new w5 _) 0).trans rfl
        have z1 : (w5.alloc (.cells #[.int .i64 0, .int .i64 0, .bool false, .int .i64 2, .int .i64 2, .int .i64 0, .int .i64 0, .bool true, .slice A9 0 c9] 25 (0, 0))).cell? ⟨w5.heap.size, 1, none⟩ = some (.int .i64 0) := (blk_cell (blk_new w5 _) 1).trans rfl
        have z2 : (w5.alloc (.cells #[.int .i64 0, .int .i64 0, .bool false, .int .i64 2, .int .i64 2, .int .i64 0, .int .i64 0, .bool true, .slice A9 0 c9] 25 (0, 0))).cell? ⟨w5.heap.size, 2, none⟩ = some (.bool false) := (blk_cell (blk_new w5 _) 2).trans rfl
        have z3 : (w5.alloc (.cells #[.int .i64 0, .int .i64 0, .bool false, .int .i64 2, .int .i64 2, .int .i64 0, .int .i64 0, .bool true, .slice A9 0 c9] 25 (0, 0))).cell? ⟨w5.heap.size, 3, none⟩ = some (.int .i64 2) := (blk_cell (blk_new w5 _) 3).trans rfl
        have z4 : (w5.alloc (.cells #[.int .i64 0, .int .i64 0, .bool false, .int .i64 2, .int .i64 2, .int .i64 0, .int .i64 0, .bool true, .slice A9 0 c9] 25 (0, 0))).cell? ⟨w5.heap.size, 4, none⟩ = some (.int .i64 2) := (blk_cell (blk_new w5 _) 4).trans rfl
        have z5 : (w5.alloc (.cells #[.int .i64 0, .int .i64 0, .bool false, .int .i64 2, .int .i64 2, .int .i64 0, .int .i64 0, .bool true, .slice A9 0 c9] 25 (0, 0))).cell? ⟨w5.heap.size, 5, none⟩ = some (.int .i64 0) := (blk_cell (blk_new w5 _) 5).trans rfl
        have z6 : (w5.alloc (.cells #[.int .i64 0, .int .i64 0, .bool false, .int .i64 2, .int .i64 2, .int .i64 0, .int .i64 0, .bool true, .slice A9 0 c9] 25 (0, 0))).cell? ⟨w5.heap.size, 6, none⟩ = some (.int .i64 0) := (blk_cell (blk_new w5 _) 6).trans rfl
        have z7 : (w5.alloc (.cells #[.int .i64 0, .int .i64 0, .bool false, .int .i64 2, .int .i64 2, .int .i64 0, .int .i64 0, .bool true, .slice A9 0 c9] 25 (0, 0))).cell? ⟨w5.heap.size, 7, none⟩ = some (.bool true) := (blk_cell (blk_new w5 _) 7).trans rfl
        have z8 : (w5.alloc (.cells #[.int .i64 0, .int .i64 0, .bool false, .int .i64 2, .int .i64 2, .int .i64 0, .int .i64 0, .bool true, .slice A9 0 c9] 25 (0, 0))).cell? ⟨w5.heap.size, 8, none⟩ = some (.slice A9 0 c9) := (blk_cell (blk_new w5 _) 8).trans rfl
        go_wp2_with fail
        refine (antiphonref6_Same.calls 20 0 0 false 2 2 0 0 true none 0 [] 0 0 false 2 2 0 0 true A9 c9 [] true _ (Kd.C_nil _ _) (by decide) (Kd.C_alloc HC9.out.1 _) HC9.out.2 rfl).mono ?_
        rintro e w6 ⟨rfl, hB6⟩
        have HT6 := Aside0.mk ((HT5.out.below (below_alloc (Below.refl _ _) _)).below hB6)
        have HS6 := Aside0.mk ((HS5.out.alloc _).below hB6)
        have HB6 := Aside0.mk (below_step (below_alloc HB5.out _) hB6)
        clear hB6 HT5 HS5 HB5 HP5 HC9 k0 z0 k1 z1 k2 z2 k3 z3 k4 z4 k5 z5 k6 z6 k7 z7 k8 z8
        have m2 := (blk_cell HS6.out.1 2).trans rfl
        go_wp2_with fail
        go_quiet (first | exact state_q HT6.out _)
        go_wp2_with fail
        exact ⟨⟨j + 1, 1, 1, 0, a1, by go_num, by omega, ⟨⟨fun _ => ⟨by omega, by omega, by have := HV.out; omega⟩, by omega, by have := HV.out; omega⟩⟩, ⟨HT6.out⟩, ⟨HS6.out.drewN _⟩, ⟨pw_below_drewN HB6.out _⟩⟩, by simp [intOf]; omega⟩
    · have e1 : decide (dd ≤ 1) = false := decide_eq_false h1
      clear h1
      by_cases h5 : dd ≤ 5
      · have e5 : decide (dd ≤ 5) = true := decide_eq_true h5
        clear h5
        by_cases hst : st = 1
        · subst hst
          have HI1 := Aside0.mk (HI.out.1 rfl)
          have HI2 := Aside0.mk HI.out.2
          clear HI
          by_cases hw : si + 1 < a1
          · have HW := Aside0.mk hw
            clear hw
            go_wp2_with fail
            refine (twin_Tick.wait _ g a0 a1 se si HT.out (by have := HI1.out; have := HV.out; omega) HW.out).mono ?_
            rintro e w3 ⟨rfl, hT3, hG3⟩
            have HT3 := Aside0.mk hT3
            have HS3 := Aside0.mk (HS.out.grown hG3 (fun e => HNE.out (by injection e with e; exact e.symm)))
            have HB3 := Aside0.mk (below_tw HB.out hG3 HGE.out)
            have hgm3 : gm ≠ w3.heap.size := Nat.ne_of_lt HS3.out.lt
            clear hT3 hG3 HT HS HB q0
            go_wp2_with fail
            have hp := blk_new w3 (.cells #[.int .i64 0, .int .i64 0, .bool false, .int .i64 0, .int .i64 0, .int .i64 0, .int .i64 0, .bool false, .slice none 0 0] 25 (0, 0))
            have hT4 := HT3.out.below (below_alloc (Below.refl _ _) (.cells #[.int .i64 0, .int .i64 0, .bool false, .int .i64 0, .int .i64 0, .int .i64 0, .int .i64 0, .bool false, .slice none 0 0] 25 (0, 0)))
            have hS4 := HS3.out.alloc (.cells #[.int .i64 0, .int .i64 0, .bool false, .int .i64 0, .int .i64 0, .int .i64 0, .int .i64 0, .bool false, .slice none 0 0] 25 (0, 0))
            have hB4 := below_alloc HB3.out (.cells #[.int .i64 0, .int .i64 0, .bool false, .int .i64 0, .int .i64 0, .int .i64 0, .int .i64 0, .bool false, .slice none 0 0] 25 (0, 0))
            generalize w3.alloc (.cells #[.int .i64 0, .int .i64 0, .bool false, .int .i64 0, .int .i64 0, .int .i64 0, .int .i64 0, .bool false, .slice none 0 0] 25 (0, 0)) = w4 at hp hT4 hS4 hB4 ⊢
            generalize w3.heap.size = b1 at hp hgm3 ⊢
            refine (antiphonref10_Twin_Tick.calls 20 gm a0 a1 1 se le 0 0 false 0 0 0 0 false [] false a0 a1 1 se (le - 1) w _ hS4 hB4 (rt_tick_wait a0 a1 se le (by have := HI1.out; have := HW.out; omega) (by have := HI1.out; have := HV.out; omega))).mono ?_
            rintro e w5 ⟨v8, rfl, hR, hS5, hB5, hK5⟩
            obtain ⟨A9, c9, rfl, hc9, hC9⟩ : ∃ A c, v8 = .slice A 0 c ∧ 0 ≤ c ∧ Kd.C (Kd.int .u8) w5 A 0 [] := Kd.R_reads hR
            have HT5 := Aside0.mk (hT4.keep hK5 HNE.out)
            have HS5 := Aside0.mk hS5
            have HB5 := Aside0.mk hB5
            have HP5 := Aside0.mk (blk_keep hp hK5 hgm3.symm)
            have HC9 := Aside0.mk (And.intro hC9 hc9)
            clear hp hT4 hS4 hB4 hR hS5 hB5 hK5 hgm3 hC9 hc9 HT3 HS3 HB3
            have k0 : ∀ o, (w5.alloc o).cell? ⟨b1, 0, none⟩ = some (.int .i64 0) := fun o => (blk_cell (blk_alloc HP5.out o) 0).trans rfl
            have k1 : ∀ o, (w5.alloc o).cell? ⟨b1, 1, none⟩ = some (.int .i64 0) := fun o => (blk_cell (blk_alloc HP5.out o) 1).trans rfl
            have k2 : ∀ o, (w5.alloc o).cell? ⟨b1, 2, none⟩ = some (.bool false) := fun o => (blk_cell (blk_alloc HP5.out o) 2).trans rfl
            have k3 : ∀ o, (w5.alloc o).cell? ⟨b1, 3, none⟩ = some (.int .i64 0) := fun o => (blk_cell (blk_alloc HP5.out o) 3).trans rfl
            have k4 : ∀ o, (w5.alloc o).cell? ⟨b1, 4, none⟩ = some (.int .i64 0) := fun o => (blk_cell (blk_alloc HP5.out o) 4).trans rfl
            have k5 : ∀ o, (w5.alloc o).cell? ⟨b1, 5, none⟩ = some (.int .i64 0) := fun o => (blk_cell (blk_alloc HP5.out o) 5).trans rfl
            have k6 : ∀ o, (w5.alloc o).cell? ⟨b1, 6, none⟩ = some (.int .i64 0) := fun o => (blk_cell (blk_alloc HP5.out o) 6).trans rfl
            have k7 : ∀ o, (w5.alloc o).cell? ⟨b1, 7, none⟩ = some (.bool false) := fun o => (blk_cell (blk_alloc HP5.out o) 7).trans rfl
            have k8 : ∀ o, (w5.alloc o).cell? ⟨b1, 8, none⟩ = some (.slice none 0 0) := fun o => (blk_cell (blk_alloc HP5.out o) 8).trans rfl
            have z0 : (w5.alloc (.cells #[.int .i64 0, .int .i64 0, .bool false, .int .i64 0, .int .i64 0, .int .i64 0, .int .i64 0, .bool false, .slice A9 0 c9] 25 (0, 0))).cell? ⟨w5.heap.size, 0, none⟩ = some (.int .i64 0) := (blk_cell (blk_new w5 _) 0).trans rfl
            have z1 : (w5.alloc (.cells #[.int .i64 0, .int .i64 0, .bool false, .int .i64 0, .int .i64 0, .int .i64 0, .int .i64 0, .bool false, .slice A9 0 c9] 25 (0, 0))).cell? ⟨w5.heap.size, 1, none⟩ = some (.int .i64 0) := (blk_cell (blk_new w5 _) 1).trans rfl
            have z2 : (w5.alloc (.cells #[.int .i64 0, .int .i64 0, .bool false, .int .i64 0, .int .i64 0, .int .i64 0, .int .i64 0, .bool false, .slice A9 0 c9] 25 (0, 0))).cell? ⟨w5.heap.size, 2, none⟩ = some (.bool false) := (blk_cell (blk_new w5 _) 2).trans rfl
            have z3 : (w5.alloc (.cells #[.int .i64 0, .int .i64 0, .bool false, .int .i64 0, .int .i64 0, .int .i64 0, .int .i64 0, .bool false, .slice A9 0 c9] 25 (0, 0))).cell? ⟨w5.heap.size, 3, none⟩ = some (.int .i64 0) := (blk_cell (blk_new w5 _) 3).trans rfl
            have z4 : (w5.alloc (.cells #[.int .i64 0, .int .i64 0, .bool false, .int .i64 0, .int .i64 0, .int .i64 0, .int .i64 0, .bool false, .slice A9 0 c9] 25 (0, 0))).cell? ⟨w5.heap.size, 4, none⟩ = some (.int .i64 0) := (blk_cell (blk_new w5 _) 4).trans rfl
            have z5 : (w5.alloc (.cells #[.int .i64 0, .int .i64 0, .bool false, .int .i64 0, .int .i64 0, .int .i64 0, .int .i64 0, .bool false, .slice A9 0 c9] 25 (0, 0))).cell? ⟨w5.heap.size, 5, none⟩ = some (.int .i64 0) := (blk_cell (blk_new w5 _) 5).trans rfl
            have z6 : (w5.alloc (.cells #[.int .i64 0, .int .i64 0, .bool false, .int .i64 0, .int .i64 0, .int .i64 0, .int .i64 0, .bool false, .slice A9 0 c9] 25 (0, 0))).cell? ⟨w5.heap.size, 6, none⟩ = some (.int .i64 0) := (blk_cell (blk_new w5 _) 6).trans rfl
            have z7 : (w5.alloc (.cells #[.int .i64 0, .int .i64 0, .bool false, .int .i64 0, .int .i64 0, .int .i64 0, .int .i64 0, .bool false, .slice A9 0 c9] 25 (0, 0))).cell? ⟨w5.heap.size, 7, none⟩ = some (.bool false) := (blk_cell (blk_new w5 _) 7).trans rfl
            have z8 : (w5.alloc (.cells #[.int .i64 0, .int .i64 0, .bool false, .int .i64 0, .int .i64 0, .int .i64 0, .int .i64 0, .bool false, .slice A9 0 c9] 25 (0, 0))).cell? ⟨w5.heap.size, 8, none⟩ = some (.slice A9 0 c9) := (blk_cell (blk_new w5 _) 8).trans rfl
            go_wp2_with fail
            refine (antiphonref6_Same.calls 20 0 0 false 0 0 0 0 false none 0 [] 0 0 false 0 0 0 0 false A9 c9 [] true _ (Kd.C_nil _ _) (by decide) (Kd.C_alloc HC9.out.1 _) HC9.out.2 rfl).mono ?_
            rintro e w6 ⟨rfl, hB6⟩
            have HT6 := Aside0.mk ((HT5.out.below (below_alloc (Below.refl _ _) _)).below hB6)
            have HS6 := Aside0.mk ((HS5.out.alloc _).below hB6)
            have HB6 := Aside0.mk (below_step (below_alloc HB5.out _) hB6)
            clear hB6 HT5 HS5 HB5 HP5 HC9 k0 z0 k1 z1 k2 z2 k3 z3 k4 z4 k5 z5 k6 z6 k7 z7 k8 z8
            have m2 := (blk_cell HS6.out.1 2).trans rfl
            go_wp2_with fail
            go_quiet (first | exact state_q HT6.out _)
            go_wp2_with fail
            exact ⟨⟨j + 1, 1, se, (si + 1), (le - 1), by go_num, by omega, ⟨⟨fun _ => by have := HI1.out; have := HW.out; omega, HI2.out⟩⟩, ⟨HT6.out⟩, ⟨HS6.out.drewN _⟩, ⟨pw_below_drewN HB6.out _⟩⟩, by simp [intOf]; omega⟩
          · have HW := Aside0.mk (show si + 1 = a1 by have := HI1.out; omega)
            clear hw
            by_cases hs : a0 ≤ se
            · have HSE := Aside0.mk hs
              clear hs
              go_wp2_with fail
              refine (twin_Tick.alone _ g a0 a1 se si HT.out (by have := HI1.out; have := HV.out; omega) (by have := HW.out; omega) HSE.out).mono ?_
              rintro e w3 ⟨rfl, hT3, hG3⟩
              have HT3 := Aside0.mk hT3
              have HS3 := Aside0.mk (HS.out.grown hG3 (fun e => HNE.out (by injection e with e; exact e.symm)))
              have HB3 := Aside0.mk (below_tw HB.out hG3 HGE.out)
              have hgm3 : gm ≠ w3.heap.size := Nat.ne_of_lt HS3.out.lt
              clear hT3 hG3 HT HS HB q0
              go_wp2_with fail
              have hp := blk_new w3 (.cells #[.int .i64 0, .int .i64 0, .bool false, .int .i64 0, .int .i64 0, .int .i64 0, .int .i64 0, .bool false, .slice none 0 0] 25 (0, 0))
              have hT4 := HT3.out.below (below_alloc (Below.refl _ _) (.cells #[.int .i64 0, .int .i64 0, .bool false, .int .i64 0, .int .i64 0, .int .i64 0, .int .i64 0, .bool false, .slice none 0 0] 25 (0, 0)))
              have hS4 := HS3.out.alloc (.cells #[.int .i64 0, .int .i64 0, .bool false, .int .i64 0, .int .i64 0, .int .i64 0, .int .i64 0, .bool false, .slice none 0 0] 25 (0, 0))
              have hB4 := below_alloc HB3.out (.cells #[.int .i64 0, .int .i64 0, .bool false, .int .i64 0, .int .i64 0, .int .i64 0, .int .i64 0, .bool false, .slice none 0 0] 25 (0, 0))
              generalize w3.alloc (.cells #[.int .i64 0, .int .i64 0, .bool false, .int .i64 0, .int .i64 0, .int .i64 0, .int .i64 0, .bool false, .slice none 0 0] 25 (0, 0)) = w4 at hp hT4 hS4 hB4 ⊢
              generalize w3.heap.size = b1 at hp hgm3 ⊢
              refine (antiphonref10_Twin_Tick.calls 20 gm a0 a1 1 se le 0 0 false 0 0 0 0 false [] false a0 a1 2 se 0 w _ hS4 hB4 (rt_tick_alone a0 a1 se le (by have := HI1.out; have := HW.out; omega) HSE.out)).mono ?_
              rintro e w5 ⟨v8, rfl, hR, hS5, hB5, hK5⟩
              obtain ⟨A9, c9, rfl, hc9, hC9⟩ : ∃ A c, v8 = .slice A 0 c ∧ 0 ≤ c ∧ Kd.C (Kd.int .u8) w5 A 0 [] := Kd.R_reads hR
              have HT5 := Aside0.mk (hT4.keep hK5 HNE.out)
              have HS5 := Aside0.mk hS5
              have HB5 := Aside0.mk hB5
              have HP5 := Aside0.mk (blk_keep hp hK5 hgm3.symm)
              have HC9 := Aside0.mk (And.intro hC9 hc9)
              clear hp hT4 hS4 hB4 hR hS5 hB5 hK5 hgm3 hC9 hc9 HT3 HS3 HB3
              have k0 : ∀ o, (w5.alloc o).cell? ⟨b1, 0, none⟩ = some (.int .i64 0) := fun o => (blk_cell (blk_alloc HP5.out o) 0).trans rfl
              have k1 : ∀ o, (w5.alloc o).cell? ⟨b1, 1, none⟩ = some (.int .i64 0) := fun o => (blk_cell (blk_alloc HP5.out o) 1).trans rfl
              have k2 : ∀ o, (w5.alloc o).cell? ⟨b1, 2, none⟩ = some (.bool false) := fun o => (blk_cell (blk_alloc HP5.out o) 2).trans rfl
              have k3 : ∀ o, (w5.alloc o).cell? ⟨b1, 3, none⟩ = some (.int .i64 0) := fun o => (blk_cell (blk_alloc HP5.out o) 3).trans rfl
              have k4 : ∀ o, (w5.alloc o).cell? ⟨b1, 4, none⟩ = some (.int .i64 0) := fun o => (blk_cell (blk_alloc HP5.out o) 4).trans rfl
              have k5 : ∀ o, (w5.alloc o).cell? ⟨b1, 5, none⟩ = some (.int .i64 0) := fun o => (blk_cell (blk_alloc HP5.out o) 5).trans rfl
              have k6 : ∀ o, (w5.alloc o).cell? ⟨b1, 6, none⟩ = some (.int .i64 0) := fun o => (blk_cell (blk_alloc HP5.out o) 6).trans rfl
              have k7 : ∀ o, (w5.alloc o).cell? ⟨b1, 7, none⟩ = some (.bool false) := fun o => (blk_cell (blk_alloc HP5.out o) 7).trans rfl
              have k8 : ∀ o, (w5.alloc o).cell? ⟨b1, 8, none⟩ = some (.slice none 0 0) := fun o => (blk_cell (blk_alloc HP5.out o) 8).trans rfl
              have z0 : (w5.alloc (.cells #[.int .i64 0, .int .i64 0, .bool false, .int .i64 0, .int .i64 0, .int .i64 0, .int .i64 0, .bool false, .slice A9 0 c9] 25 (0, 0))).cell? ⟨w5.heap.size, 0, none⟩ = some (.int .i64 0) := (blk_cell (blk_new w5 _) 0).trans rfl
              have z1 : (w5.alloc (.cells #[.int .i64 0, .int .i64 0, .bool false, .int .i64 0, .int .i64 0, .int .i64 0, .int .i64 0, .bool false, .slice A9 0 c9] 25 (0, 0))).cell? ⟨w5.heap.size, 1, none⟩ = some (.int .i64 0) := (blk_cell (blk_new w5 _) 1).trans rfl
              have z2 : (w5.alloc (.cells #[.int .i64 0, .int .i64 0, .bool false, .int .i64 0, .int .i64 0, .int .i64 0, .int .i64 0, .bool false, .slice A9 0 c9] 25 (0, 0))).cell? ⟨w5.heap.size, 2, none⟩ = some (.bool false) := (blk_cell (blk_new w5 _) 2).trans rfl
              have z3 : (w5.alloc (.cells #[.int .i64 0, .int .i64 0, .bool false, .int .i64 0, .int .i64 0, .int .i64 0, .int .i64 0, .bool false, .slice A9 0 c9] 25 (0, 0))).cell? ⟨w5.heap.size, 3, none⟩ = some (.int .i64 0) := (blk_cell (blk_new w5 _) 3).trans rfl
              have z4 : (w5.alloc (.cells #[.int .i64 0, .int .i64 0, .bool false, .int .i64 0, .int .i64 0, .int .i64 0, .int .i64 0, .bool false, .slice A9 0 c9] 25 (0, 0))).cell? ⟨w5.heap.size, 4, none⟩ = some (.int .i64 0) := (blk_cell (blk_new w5 _) 4).trans rfl
              have z5 : (w5.alloc (.cells #[.int .i64 0, .int .i64 0, .bool false, .int .i64 0, .int .i64 0, .int .i64 0, .int .i64 0, .bool false, .slice A9 0 c9] 25 (0, 0))).cell? ⟨w5.heap.size, 5, none⟩ = some (.int .i64 0) := (blk_cell (blk_new w5 _) 5).trans rfl
              have z6 : (w5.alloc (.cells #[.int .i64 0, .int .i64 0, .bool false, .int .i64 0, .int .i64 0, .int .i64 0, .int .i64 0, .bool false, .slice A9 0 c9] 25 (0, 0))).cell? ⟨w5.heap.size, 6, none⟩ = some (.int .i64 0) := (blk_cell (blk_new w5 _) 6).trans rfl
              have z7 : (w5.alloc (.cells #[.int .i64 0, .int .i64 0, .bool false, .int .i64 0, .int .i64 0, .int .i64 0, .int .i64 0, .bool false, .slice A9 0 c9] 25 (0, 0))).cell? ⟨w5.heap.size, 7, none⟩ = some (.bool false) := (blk_cell (blk_new w5 _) 7).trans rfl
              have z8 : (w5.alloc (.cells #[.int .i64 0, .int .i64 0, .bool false, .int .i64 0, .int .i64 0, .int .i64 0, .int .i64 0, .bool false, .slice A9 0 c9] 25 (0, 0))).cell? ⟨w5.heap.size, 8, none⟩ = some (.slice A9 0 c9) := (blk_cell (blk_new w5 _) 8).trans rfl
              go_wp2_with fail
              refine (antiphonref6_Same.calls 20 0 0 false 0 0 0 0 false none 0 [] 0 0 false 0 0 0 0 false A9 c9 [] true _ (Kd.C_nil _ _) (by decide) (Kd.C_alloc HC9.out.1 _) HC9.out.2 rfl).mono ?_
              rintro e w6 ⟨rfl, hB6⟩
              have HT6 := Aside0.mk ((HT5.out.below (below_alloc (Below.refl _ _) _)).below hB6)
              have HS6 := Aside0.mk ((HS5.out.alloc _).below hB6)
              have HB6 := Aside0.mk (below_step (below_alloc HB5.out _) hB6)
              clear hB6 HT5 HS5 HB5 HP5 HC9 k0 z0 k1 z1 k2 z2 k3 z3 k4 z4 k5 z5 k6 z6 k7 z7 k8 z8
              have m2 := (blk_cell HS6.out.1 2).trans rfl
              go_wp2_with fail
              go_quiet (first | exact state_q HT6.out _)
              go_wp2_with fail
              exact ⟨⟨j + 1, 2, se, (si + 1), 0, by go_num, by omega, ⟨⟨fun h => absurd h (by decide), HI2.out⟩⟩, ⟨HT6.out⟩, ⟨HS6.out.drewN _⟩, ⟨pw_below_drewN HB6.out _⟩⟩, by simp [intOf]; omega⟩
            · have HSE := Aside0.mk (show se < a0 by omega)
              clear hs
              go_wp2_with fail
              refine (twin_Tick.more _ g a0 a1 se si HT.out (by have := HI1.out; have := HV.out; omega) (by have := HW.out; omega) HSE.out (by have := HI2.out; have := HV.out; omega)).mono ?_
              rintro e w3 ⟨rfl, hT3, hG3⟩
              have HT3 := Aside0.mk hT3
              have HS3 := Aside0.mk (HS.out.grown hG3 (fun e => HNE.out (by injection e with e; exact e.symm)))
              have HB3 := Aside0.mk (below_tw HB.out hG3 HGE.out)
              have hgm3 : gm ≠ w3.heap.size := Nat.ne_of_lt HS3.out.lt
              clear hT3 hG3 HT HS HB q0
              go_wp2_with fail
              have hp := blk_new w3 (.cells #[.int .i64 0, .int .i64 0, .bool false, .int .i64 2, .int .i64 2, .int .i64 0, .int .i64 0, .bool true, .slice none 0 0] 25 (0, 0))
              have hT4 := HT3.out.below (below_alloc (Below.refl _ _) (.cells #[.int .i64 0, .int .i64 0, .bool false, .int .i64 2, .int .i64 2, .int .i64 0, .int .i64 0, .bool true, .slice none 0 0] 25 (0, 0)))
              have hS4 := HS3.out.alloc (.cells #[.int .i64 0, .int .i64 0, .bool false, .int .i64 2, .int .i64 2, .int .i64 0, .int .i64 0, .bool true, .slice none 0 0] 25 (0, 0))
              have hB4 := below_alloc HB3.out (.cells #[.int .i64 0, .int .i64 0, .bool false, .int .i64 2, .int .i64 2, .int .i64 0, .int .i64 0, .bool true, .slice none 0 0] 25 (0, 0))
              generalize w3.alloc (.cells #[.int .i64 0, .int .i64 0, .bool false, .int .i64 2, .int .i64 2, .int .i64 0, .int .i64 0, .bool true, .slice none 0 0] 25 (0, 0)) = w4 at hp hT4 hS4 hB4 ⊢
              generalize w3.heap.size = b1 at hp hgm3 ⊢
              refine (antiphonref10_Twin_Tick.calls 20 gm a0 a1 1 se le 0 0 false 2 2 0 0 true [] true a0 a1 1 (se + 1) a1 w _ hS4 hB4 (rt_tick_more a0 a1 se le (by have := HI1.out; have := HW.out; omega) HSE.out (by have := HI2.out; have := HV.out; omega))).mono ?_
              rintro e w5 ⟨v8, rfl, hR, hS5, hB5, hK5⟩
              obtain ⟨A9, c9, rfl, hc9, hC9⟩ : ∃ A c, v8 = .slice A 0 c ∧ 0 ≤ c ∧ Kd.C (Kd.int .u8) w5 A 0 [] := Kd.R_reads hR
              have HT5 := Aside0.mk (hT4.keep hK5 HNE.out)
              have HS5 := Aside0.mk hS5
              have HB5 := Aside0.mk hB5
              have HP5 := Aside0.mk (blk_keep hp hK5 hgm3.symm)
              have HC9 := Aside0.mk (And.intro hC9 hc9)
              clear hp hT4 hS4 hB4 hR hS5 hB5 hK5 hgm3 hC9 hc9 HT3 HS3 HB3
              have k0 : ∀ o, (w5.alloc o).cell? ⟨b1, 0, none⟩ = some (.int .i64 0) := fun o => (blk_cell (blk_alloc HP5.out o) 0).trans rfl
              have k1 : ∀ o, (w5.alloc o).cell? ⟨b1, 1, none⟩ = some (.int .i64 0) := fun o => (blk_cell (blk_alloc HP5.out o) 1).trans rfl
              have k2 : ∀ o, (w5.alloc o).cell? ⟨b1, 2, none⟩ = some (.bool false) := fun o => (blk_cell (blk_alloc HP5.out o) 2).trans rfl
              have k3 : ∀ o, (w5.alloc o).cell? ⟨b1, 3, none⟩ = some (.int .i64 2) := fun o => (blk_cell (blk_alloc HP5.out o) 3).trans rfl
              have k4 : ∀ o, (w5.alloc o).cell? ⟨b1, 4, none⟩ = some (.int .i64 2) := fun o => (blk_cell (blk_alloc HP5.out o) 4).trans rfl
              have k5 : ∀ o, (w5.alloc o).cell? ⟨b1, 5, none⟩ = some (.int .i64 0) := fun o => (blk_cell (blk_alloc HP5.out o) 5).trans rfl
              have k6 : ∀ o, (w5.alloc o).cell? ⟨b1, 6, none⟩ = some (.int .i64 0) := fun o => (blk_cell (blk_alloc HP5.out o) 6).trans rfl
              have k7 : ∀ o, (w5.alloc o).cell? ⟨b1, 7, none⟩ = some (.bool true) := fun o => (blk_cell (blk_alloc HP5.out o) 7).trans rfl
              have k8 : ∀ o, (w5.alloc o).cell? ⟨b1, 8, none⟩ = some (.slice none 0 0) := fun o => (blk_cell (blk_alloc HP5.out o) 8).trans rfl
              have z0 : (w5.alloc (.cells #[.int .i64 0, .int .i64 0, .bool false, .int .i64 2, .int .i64 2, .int .i64 0, .int .i64 0, .bool true, .slice A9 0 c9] 25 (0, 0))).cell? ⟨w5.heap.size, 0, none⟩ = some (.int .i64 0) := (blk_cell (blk_new w5 _) 0).trans rfl
              have z1 : (w5.alloc (.cells #[.int .i64 0, .int .i64 0, .bool false, .int .i64 2, .int .i64 2, .int .i64 0, .int .i64 0, .bool true, .slice A9 0 c9] 25 (0, 0))).cell? ⟨w5.heap.size, 1, none⟩ = some (.int .i64 0) := (blk_cell (blk_new w5 _) 1).trans rfl
              have z2 : (w5.alloc (.cells #[.int .i64 0, .int .i64 0, .bool false, .int .i64 2, .int .i64 2, .int .i64 0, .int .i64 0, .bool true, .slice A9 0 c9] 25 (0, 0))).cell? ⟨w5.heap.size, 2, none⟩ = some (.bool false) := (blk_cell (blk_new w5 _) 2).trans rfl
              have z3 : (w5.alloc (.cells #[.int .i64 0, .int .i64 0, .bool false, .int .i64 2, .int .i64 2, .int .i64 0, .int .i64 0, .bool true, .slice A9 0 c9] 25 (0, 0))).cell? ⟨w5.heap.size, 3, none⟩ = some (.int .i64 2) := (blk_cell (blk_new w5 _) 3).trans rfl
              have z4 : (w5.alloc (.cells #[.int .i64 0, .int .i64 0, .bool false, .int .i64 2, .int .i64 2, .int .i64 0, .int .i64 0, .bool true, .slice A9 0 c9] 25 (0, 0))).cell? ⟨w5.heap.size, 4, none⟩ = some (.int .i64 2) := (blk_cell (blk_new w5 _) 4).trans rfl
              have z5 : (w5.alloc (.cells #[.int .i64 0, .int .i64 0, .bool false, .int .i64 2, .int .i64 2, .int .i64 0, .int .i64 0, .bool true, .slice A9 0 c9] 25 (0, 0))).cell? ⟨w5.heap.size, 5, none⟩ = some (.int .i64 0) := (blk_cell (blk_new w5 _) 5).trans rfl
              have z6 : (w5.alloc (.cells #[.int .i64 0, .int .i64 0, .bool false, .int .i64 2, .int .i64 2, .int .i64 0, .int .i64 0, .bool true, .slice A9 0 c9] 25 (0, 0))).cell? ⟨w5.heap.size, 6, none⟩ = some (.int .i64 0) := (blk_cell (blk_new w5 _) 6).trans rfl
              have z7 : (w5.alloc (.cells #[.int .i64 0, .int .i64 0, .bool false, .int .i64 2, .int .i64 2, .int .i64 0, .int .i64 0, .bool true, .slice A9 0 c9] 25 (0, 0))).cell? ⟨w5.heap.size, 7, none⟩ = some (.bool true) := (blk_cell (blk_new w5 _) 7).trans rfl
              have z8 : (w5.alloc (.cells #[.int .i64 0, .int .i64 0, .bool false, .int .i64 2, .int .i64 2, .int .i64 0, .int .i64 0, .bool true, .slice A9 0 c9] 25 (0, 0))).cell? ⟨w5.heap.size, 8, none⟩ = some (.slice A9 0 c9) := (blk_cell (blk_new w5 _) 8).trans rfl
              go_wp2_with fail
              refine (antiphonref6_Same.calls 20 0 0 false 2 2 0 0 true none 0 [] 0 0 false 2 2 0 0 true A9 c9 [] true _ (Kd.C_nil _ _) (by decide) (Kd.C_alloc HC9.out.1 _) HC9.out.2 rfl).mono ?_
              rintro e w6 ⟨rfl, hB6⟩
              have HT6 := Aside0.mk ((HT5.out.below (below_alloc (Below.refl _ _) _)).below hB6)
              have HS6 := Aside0.mk ((HS5.out.alloc _).below hB6)
              have HB6 := Aside0.mk (below_step (below_alloc HB5.out _) hB6)
              clear hB6 HT5 HS5 HB5 HP5 HC9 k0 z0 k1 z1 k2 z2 k3 z3 k4 z4 k5 z5 k6 z6 k7 z7 k8 z8
              have m2 := (blk_cell HS6.out.1 2).trans rfl
              go_wp2_with fail
              go_quiet (first | exact state_q HT6.out _)
              go_wp2_with fail
              exact ⟨⟨j + 1, 1, (se + 1), 0, a1, by go_num, by omega, ⟨⟨fun _ => ⟨by omega, by omega, by have := HV.out; omega⟩, by have := HI2.out; omega, by have := HSE.out; omega⟩⟩, ⟨HT6.out⟩, ⟨HS6.out.drewN _⟩, ⟨pw_below_drewN HB6.out _⟩⟩, by simp [intOf]; omega⟩
        · have HST := Aside0.mk hst
          have HI2 := Aside0.mk HI.out.2
          clear hst HI
          go_wp2_with fail
          refine (twin_Tick.idle _ g a0 a1 st se si HT.out HST.out).mono ?_
          rintro e w3 ⟨rfl, hT3, hG3⟩
          have HT3 := Aside0.mk hT3
          have HS3 := Aside0.mk (HS.out.grown hG3 (fun e => HNE.out (by injection e with e; exact e.symm)))
          have HB3 := Aside0.mk (below_tw HB.out hG3 HGE.out)
          have hgm3 : gm ≠ w3.heap.size := Nat.ne_of_lt HS3.out.lt
          clear hT3 hG3 HT HS HB q0
          go_wp2_with fail
          have hp := blk_new w3 (.cells #[.int .i64 0, .int .i64 0, .bool false, .int .i64 0, .int .i64 0, .int .i64 0, .int .i64 0, .bool false, .slice none 0 0] 25 (0, 0))
          have hT4 := HT3.out.below (below_alloc (Below.refl _ _) (.cells #[.int .i64 0, .int .i64 0, .bool false, .int .i64 0, .int .i64 0, .int .i64 0, .int .i64 0, .bool false, .slice none 0 0] 25 (0, 0)))
          have hS4 := HS3.out.alloc (.cells #[.int .i64 0, .int .i64 0, .bool false, .int .i64 0, .int .i64 0, .int .i64 0, .int .i64 0, .bool false, .slice none 0 0] 25 (0, 0))
          have hB4 := below_alloc HB3.out (.cells #[.int .i64 0, .int .i64 0, .bool false, .int .i64 0, .int .i64 0, .int .i64 0, .int .i64 0, .bool false, .slice none 0 0] 25 (0, 0))
          generalize w3.alloc (.cells #[.int .i64 0, .int .i64 0, .bool false, .int .i64 0, .int .i64 0, .int .i64 0, .int .i64 0, .bool false, .slice none 0 0] 25 (0, 0)) = w4 at hp hT4 hS4 hB4 ⊢
          generalize w3.heap.size = b1 at hp hgm3 ⊢
          refine (antiphonref10_Twin_Tick.calls 20 gm a0 a1 st se le 0 0 false 0 0 0 0 false [] false a0 a1 st se le w _ hS4 hB4 (rt_tick_idle a0 a1 st se le HST.out)).mono ?_
          rintro e w5 ⟨v8, rfl, hR, hS5, hB5, hK5⟩
          obtain ⟨A9, c9, rfl, hc9, hC9⟩ : ∃ A c, v8 = .slice A 0 c ∧ 0 ≤ c ∧ Kd.C (Kd.int .u8) w5 A 0 [] := Kd.R_reads hR
          have HT5 := Aside0.mk (hT4.keep hK5 HNE.out)
          have HS5 := Aside0.mk hS5
          have HB5 := Aside0.mk hB5
          have HP5 := Aside0.mk (blk_keep hp hK5 hgm3.symm)
          have HC9 := Aside0.mk (And.intro hC9 hc9)
          clear hp hT4 hS4 hB4 hR hS5 hB5 hK5 hgm3 hC9 hc9 HT3 HS3 HB3
          have k0 : ∀ o, (w5.alloc o).cell? ⟨b1, 0, none⟩ = some (.int .i64 0) := fun o => (blk_cell (blk_alloc HP5.out o) 0).trans rfl
          have k1 : ∀ o, (w5.alloc o).cell? ⟨b1, 1, none⟩ = some (.int .i64 0) := fun o => (blk_cell (blk_alloc HP5.out o) 1).trans rfl
          have k2 : ∀ o, (w5.alloc o).cell? ⟨b1, 2, none⟩ = some (.bool false) := fun o => (blk_cell (blk_alloc HP5.out o) 2).trans rfl
          have k3 : ∀ o, (w5.alloc o).cell? ⟨b1, 3, none⟩ = some (.int .i64 0) := fun o => (blk_cell (blk_alloc HP5.out o) 3).trans rfl
          have k4 : ∀ o, (w5.alloc o).cell? ⟨b1, 4, none⟩ = some (.int .i64 0) := fun o => (blk_cell (blk_alloc HP5.out o) 4).trans rfl
          have k5 : ∀ o, (w5.alloc o).cell? ⟨b1, 5, none⟩ = some (.int .i64 0) := fun o => (blk_cell (blk_alloc HP5.out o) 5).trans rfl
          have k6 : ∀ o, (w5.alloc o).cell? ⟨b1, 6, none⟩ = some (.int .i64 0) := fun o => (blk_cell (blk_alloc HP5.out o) 6).trans rfl
          have k7 : ∀ o, (w5.alloc o).cell? ⟨b1, 7, none⟩ = some (.bool false) := fun o => (blk_cell (blk_alloc HP5.out o) 7).trans rfl
          have k8 : ∀ o, (w5.alloc o).cell? ⟨b1, 8, none⟩ = some (.slice none 0 0) := fun o => (blk_cell (blk_alloc HP5.out o) 8).trans rfl
          have z0 : (w5.alloc (.cells #[.int .i64 0, .int .i64 0, .bool false, .int .i64 0, .int .i64 0, .int .i64 0, .int .i64 0, .bool false, .slice A9 0 c9] 25 (0, 0))).cell? ⟨w5.heap.size, 0, none⟩ = some (.int .i64 0) := (blk_cell (blk_new w5 _) 0).trans rfl
          have z1 : (w5.alloc (.cells #[.int .i64 0, .int .i64 0, .bool false, .int .i64 0, .int .i64 0, .int .i64 0, .int .i64 0, .bool false, .slice A9 0 c9] 25 (0, 0))).cell? ⟨w5.heap.size, 1, none⟩ = some (.int .i64 0) := (blk_cell (blk_new w5 _) 1).trans rfl
          have z2 : (w5.alloc (.cells #[.int .i64 0, .int .i64 0, .bool false, .int .i64 0, .int .i64 0, .int .i64 0, .int .i64 0, .bool false, .slice A9 0 c9] 25 (0, 0))).cell? ⟨w5.heap.size, 2, none⟩ = some (.bool false) := (blk_cell (blk_new w5 _) 2).trans rfl
          have z3 : (w5.alloc (.cells #[.int .i64 0, .int .i64 0, .bool false, .int .i64 0, .int .i64 0, .int .i64 0, .int .i64 0, .bool false, .slice A9 0 c9] 25 (0, 0))).cell? ⟨w5.heap.size, 3, none⟩ = some (.int .i64 0) := (blk_cell (blk_new w5 _) 3).trans rfl
          have z4 : (w5.alloc (.cells #[.int .i64 0, .int .i64 0, .bool false, .int .i64 0, .int .i64 0, .int .i64 0, .int .i64 0, .bool false, .slice A9 0 c9] 25 (0, 0))).cell? ⟨w5.heap.size, 4, none⟩ = some (.int .i64 0) := (blk_cell (blk_new w5 _) 4).trans rfl
          have z5 : (w5.alloc (.cells #[.int .i64 0, .int .i64 0, .bool false, .int .i64 0, .int .i64 0, .int .i64 0, .int .i64 0, .bool false, .slice A9 0 c9] 25 (0, 0))).cell? ⟨w5.heap.size, 5, none⟩ = some (.int .i64 0) := (blk_cell (blk_new w5 _) 5).trans rfl
          have z6 : (w5.alloc (.cells #[.int .i64 0, .int .i64 0, .bool false, .int .i64 0, .int .i64 0, .int .i64 0, .int .i64 0, .bool false, .slice A9 0 c9] 25 (0, 0))).cell? ⟨w5.heap.size, 6, none⟩ = some (.int .i64 0) := (blk_cell (blk_new w5 _) 6).trans rfl
          have z7 : (w5.alloc (.cells #[.int .i64 0, .int .i64 0, .bool false, .int .i64 0, .int .i64 0, .int .i64 0, .int .i64 0, .bool false, .slice A9 0 c9] 25 (0, 0))).cell? ⟨w5.heap.size, 7, none⟩ = some (.bool false) := (blk_cell (blk_new w5 _) 7).trans rfl
          have z8 : (w5.alloc (.cells #[.int .i64 0, .int .i64 0, .bool false, .int .i64 0, .int .i64 0, .int .i64 0, .int .i64 0, .bool false, .slice A9 0 c9] 25 (0, 0))).cell? ⟨w5.heap.size, 8, none⟩ = some (.slice A9 0 c9) := (blk_cell (blk_new w5 _) 8).trans rfl
          go_wp2_with fail
          refine (antiphonref6_Same.calls 20 0 0 false 0 0 0 0 false none 0 [] 0 0 false 0 0 0 0 false A9 c9 [] true _ (Kd.C_nil _ _) (by decide) (Kd.C_alloc HC9.out.1 _) HC9.out.2 rfl).mono ?_
          rintro e w6 ⟨rfl, hB6⟩
          have HT6 := Aside0.mk ((HT5.out.below (below_alloc (Below.refl _ _) _)).below hB6)
          have HS6 := Aside0.mk ((HS5.out.alloc _).below hB6)
          have HB6 := Aside0.mk (below_step (below_alloc HB5.out _) hB6)
          clear hB6 HT5 HS5 HB5 HP5 HC9 k0 z0 k1 z1 k2 z2 k3 z3 k4 z4 k5 z5 k6 z6 k7 z7 k8 z8
          have m2 := (blk_cell HS6.out.1 2).trans rfl
          go_wp2_with fail
          go_quiet (first | exact state_q HT6.out _)
          go_wp2_with fail
          exact ⟨⟨j + 1, st, se, si, le, by go_num, by omega, ⟨⟨fun h => absurd h HST.out, HI2.out⟩⟩, ⟨HT6.out⟩, ⟨HS6.out.drewN _⟩, ⟨pw_below_drewN HB6.out _⟩⟩, by simp [intOf]; omega⟩
      · have e5 : decide (dd ≤ 5) = false := decide_eq_false h5
        clear h5
        obtain ⟨⟨p0, p1, p2, p3, p4, p5, p6, p7, p8⟩, hc8, hC8⟩ := HQ.out
        have HC8 := Aside0.mk (And.intro hC8 hc8)
        have q1 := pw_cell_below HB.out p0
        have q2 := pw_cell_below HB.out p1
        have q3 := pw_cell_below HB.out p2
        have q4 := pw_cell_below HB.out p3
        have q5 := pw_cell_below HB.out p4
        have q6 := pw_cell_below HB.out p5
        have q7 := pw_cell_below HB.out p6
        have q8 := pw_cell_below HB.out p7
        have q9 := pw_cell_below HB.out p8
        have qq0 : ∀ o, (wr.alloc o).cell? (ad.add (j * 10)) = some (.int .i64 dd) := fun o => pw_cell_below (below_alloc (Below.refl _ _) o) q0
        have qq9 : ∀ o, (wr.alloc o).cell? ⟨(ad.add (j * 10)).block, (ad.add (j * 10)).off + 9, none⟩ = some (.slice A8 x.f8.length c8) := fun o => pw_cell_below (below_alloc (Below.refl _ _) o) q9
        obtain ⟨x0, x1, x2, x3, x4, x5, x6, x7, l8⟩ := x
        dsimp only at q1 q2 q3 q4 q5 q6 q7 q8 q9 qq9 HC8
        clear p0 p1 p2 p3 p4 p5 p6 p7 p8 hc8 hC8 HQ HQ0
        have hgw : gm ≠ wr.heap.size := Nat.ne_of_lt HS.out.lt
        by_cases hlen : l8.length ≤ 2000
        case neg =>
          have hlen' : decide (2000 < l8.length) = true := decide_eq_true (by omega)
          by_cases h7 : dd = 7
          · have e7 : (dd == 7) = true := beq_iff_eq.2 h7
            clear h7
            go_wp2_with fail
            go_ret
            exact ⟨rfl, below_alloc HB.out _⟩
          · have e7 : (dd == 7) = false := beq_eq_false_iff_ne.2 h7
            clear h7
            go_wp2_with fail
            go_ret
            exact ⟨rfl, below_alloc HB.out _⟩
        have hlen' : decide (2000 < l8.length) = false := decide_eq_false (by omega)
        have hgr : wr.heap.size ≠ g := Nat.ne_of_gt HT.out.lt
        have HFA := Aside0.mk (show ∀ ad', A8 = some ad' → 0 < l8.length → ad'.block ≠ gm from fun ad' e h => Nat.ne_of_lt (Nat.lt_of_lt_of_le (info_lt HC8.out.1 ad' e h) HS.out.ge))
        by_cases h7 : dd = 7
        · have e7 : (dd == 7) = true := beq_iff_eq.2 h7
          clear h7
          have hpx := blk_new wr (.cells #[.int .i64 0, .int .i64 0, .bool true, .int .i64 2, .int .i64 2, .int .i64 0, .int .i64 0, .bool true, .slice A8 l8.length c8] 25 (0, 0))
          have z0 : (wr.alloc (.cells #[.int .i64 0, .int .i64 0, .bool true, .int .i64 2, .int .i64 2, .int .i64 0, .int .i64 0, .bool true, .slice A8 l8.length c8] 25 (0, 0))).cell? ⟨wr.heap.size, 0, none⟩ = some (.int .i64 0) := (blk_cell hpx 0).trans rfl
          have z1 : (wr.alloc (.cells #[.int .i64 0, .int .i64 0, .bool true, .int .i64 2, .int .i64 2, .int .i64 0, .int .i64 0, .bool true, .slice A8 l8.length c8] 25 (0, 0))).cell? ⟨wr.heap.size, 1, none⟩ = some (.int .i64 0) := (blk_cell hpx 1).trans rfl
          have z2 : (wr.alloc (.cells #[.int .i64 0, .int .i64 0, .bool true, .int .i64 2, .int .i64 2, .int .i64 0, .int .i64 0, .bool true, .slice A8 l8.length c8] 25 (0, 0))).cell? ⟨wr.heap.size, 2, none⟩ = some (.bool true) := (blk_cell hpx 2).trans rfl
          have z3 : (wr.alloc (.cells #[.int .i64 0, .int .i64 0, .bool true, .int .i64 2, .int .i64 2, .int .i64 0, .int .i64 0, .bool true, .slice A8 l8.length c8] 25 (0, 0))).cell? ⟨wr.heap.size, 3, none⟩ = some (.int .i64 2) := (blk_cell hpx 3).trans rfl
          have z4 : (wr.alloc (.cells #[.int .i64 0, .int .i64 0, .bool true, .int .i64 2, .int .i64 2, .int .i64 0, .int .i64 0, .bool true, .slice A8 l8.length c8] 25 (0, 0))).cell? ⟨wr.heap.size, 4, none⟩ = some (.int .i64 2) := (blk_cell hpx 4).trans rfl
          have z5 : (wr.alloc (.cells #[.int .i64 0, .int .i64 0, .bool true, .int .i64 2, .int .i64 2, .int .i64 0, .int .i64 0, .bool true, .slice A8 l8.length c8] 25 (0, 0))).cell? ⟨wr.heap.size, 5, none⟩ = some (.int .i64 0) := (blk_cell hpx 5).trans rfl
          have z6 : (wr.alloc (.cells #[.int .i64 0, .int .i64 0, .bool true, .int .i64 2, .int .i64 2, .int .i64 0, .int .i64 0, .bool true, .slice A8 l8.length c8] 25 (0, 0))).cell? ⟨wr.heap.size, 6, none⟩ = some (.int .i64 0) := (blk_cell hpx 6).trans rfl
          have z7 : (wr.alloc (.cells #[.int .i64 0, .int .i64 0, .bool true, .int .i64 2, .int .i64 2, .int .i64 0, .int .i64 0, .bool true, .slice A8 l8.length c8] 25 (0, 0))).cell? ⟨wr.heap.size, 7, none⟩ = some (.bool true) := (blk_cell hpx 7).trans rfl
          have z8 : (wr.alloc (.cells #[.int .i64 0, .int .i64 0, .bool true, .int .i64 2, .int .i64 2, .int .i64 0, .int .i64 0, .bool true, .slice A8 l8.length c8] 25 (0, 0))).cell? ⟨wr.heap.size, 8, none⟩ = some (.slice A8 l8.length c8) := (blk_cell hpx 8).trans rfl
          have HPX := Aside0.mk hpx
          clear hpx
          go_wp2_with fail
          clear z0 z1 z2 z3 z4 z5 z6 z7 z8 q0 q1 q2 q3 q4 q5 q6 q7 q8 q9 qq0 qq9
          by_cases hst : st = 1
          · subst hst
            have HI1 := Aside0.mk (HI.out.1 rfl)
            have HI2 := Aside0.mk HI.out.2
            clear HI
            obtain ⟨b, hb⟩ : ∃ b, (Lib.mayB 0 0 true 2 2 0 0 l8.length && ansB 0 0 true 2 2 true) = b := ⟨_, rfl⟩
            have HBE := Aside0.mk hb
            refine (twin_Hear.asks _ _ g a0 a1 se si (HT.out.below (below_alloc (Below.refl _ _) _)) 0 0 true 2 2 0 0 true A8 c8 l8 _ (Kd.C_alloc (Kd.C_below HC8.out.1 HB.out) _) HC8.out.2 (Lib.may_pdu 0 0 0 true 2 2 0 0 true l8)).mono ?_
            rintro e w4 ⟨rfl, hT4, hG4⟩
            rw [hb] at hT4 ⊢
            clear hb
            have HP4 := Aside0.mk (blk_only HPX.out hG4 hgr)
            have HS4 := Aside0.mk ((HS.out.alloc (.cells #[.int .i64 0, .int .i64 0, .bool true, .int .i64 2, .int .i64 2, .int .i64 0, .int .i64 0, .bool true, .slice A8 l8.length c8] 25 (0, 0))).grown hG4 (fun e => HNE.out (by injection e with e; exact e.symm)))
            have HB4 := Aside0.mk (below_tw (below_alloc HB.out _) hG4 HGE.out)
            have HT4 := Aside0.mk hT4
            have y0 : w4.cell? ⟨wr.heap.size, 0, none⟩ = some (.int .i64 0) := (blk_cell HP4.out 0).trans rfl
            have y1 : w4.cell? ⟨wr.heap.size, 1, none⟩ = some (.int .i64 0) := (blk_cell HP4.out 1).trans rfl
            have y2 : w4.cell? ⟨wr.heap.size, 2, none⟩ = some (.bool true) := (blk_cell HP4.out 2).trans rfl
            have y3 : w4.cell? ⟨wr.heap.size, 3, none⟩ = some (.int .i64 2) := (blk_cell HP4.out 3).trans rfl
            have y4 : w4.cell? ⟨wr.heap.size, 4, none⟩ = some (.int .i64 2) := (blk_cell HP4.out 4).trans rfl
            have y5 : w4.cell? ⟨wr.heap.size, 5, none⟩ = some (.int .i64 0) := (blk_cell HP4.out 5).trans rfl
            have y6 : w4.cell? ⟨wr.heap.size, 6, none⟩ = some (.int .i64 0) := (blk_cell HP4.out 6).trans rfl
            have y7 : w4.cell? ⟨wr.heap.size, 7, none⟩ = some (.bool true) := (blk_cell HP4.out 7).trans rfl
            have y8 : w4.cell? ⟨wr.heap.size, 8, none⟩ = some (.slice A8 l8.length c8) := (blk_cell HP4.out 8).trans rfl
            clear hT4 hG4 HT HS HB HPX
            go_wp2_with fail
            refine (antiphonref10_Twin_Hear.calls 5 gm a0 a1 1 se le 0 0 true 2 2 0 0 true A8 c8 l8 b a0 a1 (heardI b) se le w _ HS4.out HB4.out (Kd.C_below HC8.out.1 HB4.out) HC8.out.2 HFA.out (rt_hear a0 a1 se le 0 0 true 2 2 0 0 true l8 b HBE.out)).mono ?_
            rintro e w6 ⟨rfl, hS6, hB6, hK6⟩
            have HT6 := Aside0.mk (HT4.out.keep hK6 HNE.out)
            have HS6 := Aside0.mk hS6
            have HB6 := Aside0.mk hB6
            clear hS6 hB6 hK6 HT4 HS4 HB4 HP4 y0 y1 y2 y3 y4 y5 y6 y7 y8
            have m2 := (blk_cell HS6.out.1 2).trans rfl
            go_wp2_with fail
            go_quiet (first | exact state_q HT6.out _)
            go_wp2_with fail
            exact ⟨⟨j + 1, (heardI b), se, si, le, by go_num, by omega, ⟨⟨fun _ => HI1.out, HI2.out⟩⟩, ⟨HT6.out⟩, ⟨HS6.out.drewN _⟩, ⟨pw_below_drewN HB6.out _⟩⟩, by simp [intOf]; omega⟩
          · have HST := Aside0.mk hst
            have HI2 := Aside0.mk HI.out.2
            clear hst HI
            refine (twin_Hear.deaf _ g a0 a1 st se si (HT.out.below (below_alloc (Below.refl _ _) _)) HST.out 0 0 true 2 2 0 0 true (.slice A8 l8.length c8)).mono ?_
            rintro e w4 ⟨rfl, hT4, hG4⟩
            have HP4 := Aside0.mk (blk_only HPX.out hG4 hgr)
            have HS4 := Aside0.mk ((HS.out.alloc (.cells #[.int .i64 0, .int .i64 0, .bool true, .int .i64 2, .int .i64 2, .int .i64 0, .int .i64 0, .bool true, .slice A8 l8.length c8] 25 (0, 0))).grown hG4 (fun e => HNE.out (by injection e with e; exact e.symm)))
            have HB4 := Aside0.mk (below_tw (below_alloc HB.out _) hG4 HGE.out)
            have HT4 := Aside0.mk hT4
            have y0 : w4.cell? ⟨wr.heap.size, 0, none⟩ = some (.int .i64 0) := (blk_cell HP4.out 0).trans rfl
            have y1 : w4.cell? ⟨wr.heap.size, 1, none⟩ = some (.int .i64 0) := (blk_cell HP4.out 1).trans rfl
            have y2 : w4.cell? ⟨wr.heap.size, 2, none⟩ = some (.bool true) := (blk_cell HP4.out 2).trans rfl
            have y3 : w4.cell? ⟨wr.heap.size, 3, none⟩ = some (.int .i64 2) := (blk_cell HP4.out 3).trans rfl
            have y4 : w4.cell? ⟨wr.heap.size, 4, none⟩ = some (.int .i64 2) := (blk_cell HP4.out 4).trans rfl
            have y5 : w4.cell? ⟨wr.heap.size, 5, none⟩ = some (.int .i64 0) := (blk_cell HP4.out 5).trans rfl
            have y6 : w4.cell? ⟨wr.heap.size, 6, none⟩ = some (.int .i64 0) := (blk_cell HP4.out 6).trans rfl
            have y7 : w4.cell? ⟨wr.heap.size, 7, none⟩ = some (.bool true) := (blk_cell HP4.out 7).trans rfl
            have y8 : w4.cell? ⟨wr.heap.size, 8, none⟩ = some (.slice A8 l8.length c8) := (blk_cell HP4.out 8).trans rfl
            clear hT4 hG4 HT HS HB HPX
            go_wp2_with fail
            refine (antiphonref10_Twin_Hear.calls 5 gm a0 a1 st se le 0 0 true 2 2 0 0 true A8 c8 l8 false a0 a1 st se le w _ HS4.out HB4.out (Kd.C_below HC8.out.1 HB4.out) HC8.out.2 HFA.out (rt_hear_deaf a0 a1 st se le 0 0 true 2 2 0 0 true l8 HST.out)).mono ?_
            rintro e w6 ⟨rfl, hS6, hB6, hK6⟩
            have HT6 := Aside0.mk (HT4.out.keep hK6 HNE.out)
            have HS6 := Aside0.mk hS6
            have HB6 := Aside0.mk hB6
            clear hS6 hB6 hK6 HT4 HS4 HB4 HP4 y0 y1 y2 y3 y4 y5 y6 y7 y8
            have m2 := (blk_cell HS6.out.1 2).trans rfl
            go_wp2_with fail
            go_quiet (first | exact state_q HT6.out _)
            go_wp2_with fail
            exact ⟨⟨j + 1, st, se, si, le, by go_num, by omega, ⟨⟨fun h => absurd h HST.out, HI2.out⟩⟩, ⟨HT6.out⟩, ⟨HS6.out.drewN _⟩, ⟨pw_below_drewN HB6.out _⟩⟩, by simp [intOf]; omega⟩
        · have e7 : (dd == 7) = false := beq_eq_false_iff_ne.2 h7
          clear h7
          have hpx := blk_new wr (.cells #[.int .i64 x0, .int .i64 x1, .bool x2, .int .i64 x3, .int .i64 x4, .int .i64 x5, .int .i64 x6, .bool x7, .slice A8 l8.length c8] 25 (0, 0))
          have z0 : (wr.alloc (.cells #[.int .i64 x0, .int .i64 x1, .bool x2, .int .i64 x3, .int .i64 x4, .int .i64 x5, .int .i64 x6, .bool x7, .slice A8 l8.length c8] 25 (0, 0))).cell? ⟨wr.heap.size, 0, none⟩ = some (.int .i64 x0) := (blk_cell hpx 0).trans rfl
          have z1 : (wr.alloc (.cells #[.int .i64 x0, .int .i64 x1, .bool x2, .int .i64 x3, .int .i64 x4, .int .i64 x5, .int .i64 x6, .bool x7, .slice A8 l8.length c8] 25 (0, 0))).cell? ⟨wr.heap.size, 1, none⟩ = some (.int .i64 x1) := (blk_cell hpx 1).trans rfl
          have z2 : (wr.alloc (.cells #[.int .i64 x0, .int .i64 x1, .bool x2, .int .i64 x3, .int .i64 x4, .int .i64 x5, .int .i64 x6, .bool x7, .slice A8 l8.length c8] 25 (0, 0))).cell? ⟨wr.heap.size, 2, none⟩ = some (.bool x2) := (blk_cell hpx 2).trans rfl
          have z3 : (wr.alloc (.cells #[.int .i64 x0, .int .i64 x1, .bool x2, .int .i64 x3, .int .i64 x4, .int .i64 x5, .int .i64 x6, .bool x7, .slice A8 l8.length c8] 25 (0, 0))).cell? ⟨wr.heap.size, 3, none⟩ = some (.int .i64 x3) := (blk_cell hpx 3).trans rfl
          have z4 : (wr.alloc (.cells #[.int .i64 x0, .int .i64 x1, .bool x2, .int .i64 x3, .int .i64 x4, .int .i64 x5, .int .i64 x6, .bool x7, .slice A8 l8.length c8] 25 (0, 0))).cell? ⟨wr.heap.size, 4, none⟩ = some (.int .i64 x4) := (blk_cell hpx 4).trans rfl
          have z5 : (wr.alloc (.cells #[.int .i64 x0, .int .i64 x1, .bool x2, .int .i64 x3, .int .i64 x4, .int .i64 x5, .int .i64 x6, .bool x7, .slice A8 l8.length c8] 25 (0, 0))).cell? ⟨wr.heap.size, 5, none⟩ = some (.int .i64 x5) := (blk_cell hpx 5).trans rfl
          have z6 : (wr.alloc (.cells #[.int .i64 x0, .int .i64 x1, .bool x2, .int .i64 x3, .int .i64 x4, .int .i64 x5, .int .i64 x6, .bool x7, .slice A8 l8.length c8] 25 (0, 0))).cell? ⟨wr.heap.size, 6, none⟩ = some (.int .i64 x6) := (blk_cell hpx 6).trans rfl
          have z7 : (wr.alloc (.cells #[.int .i64 x0, .int .i64 x1, .bool x2, .int .i64 x3, .int .i64 x4, .int .i64 x5, .int .i64 x6, .bool x7, .slice A8 l8.length c8] 25 (0, 0))).cell? ⟨wr.heap.size, 7, none⟩ = some (.bool x7) := (blk_cell hpx 7).trans rfl
          have z8 : (wr.alloc (.cells #[.int .i64 x0, .int .i64 x1, .bool x2, .int .i64 x3, .int .i64 x4, .int .i64 x5, .int .i64 x6, .bool x7, .slice A8 l8.length c8] 25 (0, 0))).cell? ⟨wr.heap.size, 8, none⟩ = some (.slice A8 l8.length c8) := (blk_cell hpx 8).trans rfl
          have HPX := Aside0.mk hpx
          clear hpx
          go_wp2_with fail
          clear z0 z1 z2 z3 z4 z5 z6 z7 z8 q0 q1 q2 q3 q4 q5 q6 q7 q8 q9 qq0 qq9
          by_cases hst : st = 1
          · subst hst
            have HI1 := Aside0.mk (HI.out.1 rfl)
            have HI2 := Aside0.mk HI.out.2
            clear HI
            obtain ⟨b, hb⟩ : ∃ b, (Lib.mayB x0 x1 x2 x3 x4 x5 x6 l8.length && ansB x0 x1 x2 x3 x4 x7) = b := ⟨_, rfl⟩
            have HBE := Aside0.mk hb
            refine (twin_Hear.asks _ _ g a0 a1 se si (HT.out.below (below_alloc (Below.refl _ _) _)) x0 x1 x2 x3 x4 x5 x6 x7 A8 c8 l8 _ (Kd.C_alloc (Kd.C_below HC8.out.1 HB.out) _) HC8.out.2 (Lib.may_pdu 0 x0 x1 x2 x3 x4 x5 x6 x7 l8)).mono ?_
            rintro e w4 ⟨rfl, hT4, hG4⟩
            rw [hb] at hT4 ⊢
            clear hb
            have HP4 := Aside0.mk (blk_only HPX.out hG4 hgr)
            have HS4 := Aside0.mk ((HS.out.alloc (.cells #[.int .i64 x0, .int .i64 x1, .bool x2, .int .i64 x3, .int .i64 x4, .int .i64 x5, .int .i64 x6, .bool x7, .slice A8 l8.length c8] 25 (0, 0))).grown hG4 (fun e => HNE.out (by injection e with e; exact e.symm)))
            have HB4 := Aside0.mk (below_tw (below_alloc HB.out _) hG4 HGE.out)
            have HT4 := Aside0.mk hT4
            have y0 : w4.cell? ⟨wr.heap.size, 0, none⟩ = some (.int .i64 x0) := (blk_cell HP4.out 0).trans rfl
            have y1 : w4.cell? ⟨wr.heap.size, 1, none⟩ = some (.int .i64 x1) := (blk_cell HP4.out 1).trans rfl
            have y2 : w4.cell? ⟨wr.heap.size, 2, none⟩ = some (.bool x2) := (blk_cell HP4.out 2).trans rfl
            have y3 : w4.cell? ⟨wr.heap.size, 3, none⟩ = some (.int .i64 x3) := (blk_cell HP4.out 3).trans rfl
            have y4 : w4.cell? ⟨wr.heap.size, 4, none⟩ = some (.int .i64 x4) := (blk_cell HP4.out 4).trans rfl
            have y5 : w4.cell? ⟨wr.heap.size, 5, none⟩ = some (.int .i64 x5) := (blk_cell HP4.out 5).trans rfl
            have y6 : w4.cell? ⟨wr.heap.size, 6, none⟩ = some (.int .i64 x6) := (blk_cell HP4.out 6).trans rfl
            have y7 : w4.cell? ⟨wr.heap.size, 7, none⟩ = some (.bool x7) := (blk_cell HP4.out 7).trans rfl
            have y8 : w4.cell? ⟨wr.heap.size, 8, none⟩ = some (.slice A8 l8.length c8) := (blk_cell HP4.out 8).trans rfl
            clear hT4 hG4 HT HS HB HPX
            go_wp2_with fail
            refine (antiphonref10_Twin_Hear.calls 5 gm a0 a1 1 se le x0 x1 x2 x3 x4 x5 x6 x7 A8 c8 l8 b a0 a1 (heardI b) se le w _ HS4.out HB4.out (Kd.C_below HC8.out.1 HB4.out) HC8.out.2 HFA.out (rt_hear a0 a1 se le x0 x1 x2 x3 x4 x5 x6 x7 l8 b HBE.out)).mono ?_
            rintro e w6 ⟨rfl, hS6, hB6, hK6⟩
            have HT6 := Aside0.mk (HT4.out.keep hK6 HNE.out)
            have HS6 := Aside0.mk hS6
            have HB6 := Aside0.mk hB6
            clear hS6 hB6 hK6 HT4 HS4 HB4 HP4 y0 y1 y2 y3 y4 y5 y6 y7 y8
            have m2 := (blk_cell HS6.out.1 2).trans rfl
            go_wp2_with fail
            go_quiet (first | exact state_q HT6.out _)
            go_wp2_with fail
            exact ⟨⟨j + 1, (heardI b), se, si, le, by go_num, by omega, ⟨⟨fun _ => HI1.out, HI2.out⟩⟩, ⟨HT6.out⟩, ⟨HS6.out.drewN _⟩, ⟨pw_below_drewN HB6.out _⟩⟩, by simp [intOf]; omega⟩
          · have HST := Aside0.mk hst
            have HI2 := Aside0.mk HI.out.2
            clear hst HI
            refine (twin_Hear.deaf _ g a0 a1 st se si (HT.out.below (below_alloc (Below.refl _ _) _)) HST.out x0 x1 x2 x3 x4 x5 x6 x7 (.slice A8 l8.length c8)).mono ?_
            rintro e w4 ⟨rfl, hT4, hG4⟩
            have HP4 := Aside0.mk (blk_only HPX.out hG4 hgr)
            have HS4 := Aside0.mk ((HS.out.alloc (.cells #[.int .i64 x0, .int .i64 x1, .bool x2, .int .i64 x3, .int .i64 x4, .int .i64 x5, .int .i64 x6, .bool x7, .slice A8 l8.length c8] 25 (0, 0))).grown hG4 (fun e => HNE.out (by injection e with e; exact e.symm)))
            have HB4 := Aside0.mk (below_tw (below_alloc HB.out _) hG4 HGE.out)
            have HT4 := Aside0.mk hT4
            have y0 : w4.cell? ⟨wr.heap.size, 0, none⟩ = some (.int .i64 x0) := (blk_cell HP4.out 0).trans rfl
            have y1 : w4.cell? ⟨wr.heap.size, 1, none⟩ = some (.int .i64 x1) := (blk_cell HP4.out 1).trans rfl
            have y2 : w4.cell? ⟨wr.heap.size, 2, none⟩ = some (.bool x2) := (blk_cell HP4.out 2).trans rfl
            have y3 : w4.cell? ⟨wr.heap.size, 3, none⟩ = some (.int .i64 x3) := (blk_cell HP4.out 3).trans rfl
            have y4 : w4.cell? ⟨wr.heap.size, 4, none⟩ = some (.int .i64 x4) := (blk_cell HP4.out 4).trans rfl
            have y5 : w4.cell? ⟨wr.heap.size, 5, none⟩ = some (.int .i64 x5) := (blk_cell HP4.out 5).trans rfl
            have y6 : w4.cell? ⟨wr.heap.size, 6, none⟩ = some (.int .i64 x6) := (blk_cell HP4.out 6).trans rfl
            have y7 : w4.cell? ⟨wr.heap.size, 7, none⟩ = some (.bool x7) := (blk_cell HP4.out 7).trans rfl
            have y8 : w4.cell? ⟨wr.heap.size, 8, none⟩ = some (.slice A8 l8.length c8) := (blk_cell HP4.out 8).trans rfl
            clear hT4 hG4 HT HS HB HPX
            go_wp2_with fail
            refine (antiphonref10_Twin_Hear.calls 5 gm a0 a1 st se le x0 x1 x2 x3 x4 x5 x6 x7 A8 c8 l8 false a0 a1 st se le w _ HS4.out HB4.out (Kd.C_below HC8.out.1 HB4.out) HC8.out.2 HFA.out (rt_hear_deaf a0 a1 st se le x0 x1 x2 x3 x4 x5 x6 x7 l8 HST.out)).mono ?_
            rintro e w6 ⟨rfl, hS6, hB6, hK6⟩
            have HT6 := Aside0.mk (HT4.out.keep hK6 HNE.out)
            have HS6 := Aside0.mk hS6
            have HB6 := Aside0.mk hB6
            clear hS6 hB6 hK6 HT4 HS4 HB4 HP4 y0 y1 y2 y3 y4 y5 y6 y7 y8
            have m2 := (blk_cell HS6.out.1 2).trans rfl
            go_wp2_with fail
            go_quiet (first | exact state_q HT6.out _)
            go_wp2_with fail
            exact ⟨⟨j + 1, st, se, si, le, by go_num, by omega, ⟨⟨fun h => absurd h HST.out, HI2.out⟩⟩, ⟨HT6.out⟩, ⟨HS6.out.drewN _⟩, ⟨pw_below_drewN HB6.out _⟩⟩, by simp [intOf]; omega⟩
end Go.Proofs.Ytnmcoebjkfpmjaa.P
/-! Opn -/
namespace Go.Proofs.Ytnmcoebjkfpmjaa.Opn
open Go.ChangeShapes Go.WideShapes Go.RowKit Go.Deep
open Go.Proofs.YtnmcoebjkfpmjaaW.PrintWords
set_option linter.unusedVariables false
def Opens (P : Program) (w : World) (t : TypeId) {α : Type} (d : Kd α) (WF : α → Prop) : Prop :=
  ∀ {H : Type} {enc : TypeId × Value → H} {base : Nat} {held : Bool} {n : Nat} {cs : List Value} {y : DataW H × List MemPlace}, DataW.trod enc P w base (fun _ => true) held n t cs = some y → ∃ x, d.K w x cs ∧ WF x
section
variable {P : Program} {w : World} {t e : TypeId} {α β : Type}
theorem opens_int {k : IntKind} (ht : P.underlying t = some (.int k)) : Opens P w t (Kd.int k) (fun x => (Lit.int k x).wf = true) := by
  intro H enc base held n cs y h
  obtain ⟨x, he, _, hw⟩ := DataW.trod_int ht h
  exact ⟨x, he, hw⟩
theorem opens_bool (ht : P.underlying t = some .bool) : Opens P w t Kd.bool (fun _ => True) := by
  intro H enc base held n cs y h
  obtain ⟨x, he, _⟩ := DataW.trod_bool ht h
  exact ⟨x, he, trivial⟩
theorem add_add_ (a : Addr) (i j : Nat) : (a.add i).add j = a.add (i + j) := by
  unfold Addr.add
  by_cases hi : i = 0 <;> by_cases hj : j = 0 <;> simp [hi, hj, Nat.add_assoc]
theorem opens_slice {d : Kd α} {WF : α → Prop} (ht : P.underlying t = some (.slice e)) (hc : P.cellsOf e = d.sz) (he : Opens P w e d WF) : Opens P w t (Kd.slice e d) (fun xs => ∀ x ∈ xs, WF x) := by
  intro H enc base held n cs y h
  rcases open_slice ht h with ⟨rfl, _⟩ | ⟨a, len, cap, m, n', D, Pl, rfl, hb, hl, hm, hmm, rfl, hx⟩
  · exact ⟨[], ⟨none, 0, rfl, Nat.le_refl _, ⟨rfl, Nat.zero_le _, fun h => absurd h (Nat.lt_irrefl 0)⟩⟩, fun x hx => by cases hx⟩
  · have hcap : m = cap := by rw [hmm]; rfl
    have key : ∀ i, i < len → ∃ x, (∃ c, c.length = d.sz ∧ d.K w x c ∧ ∀ j u, c[j]? = some u → w.cell? (a.add (i * d.sz + j)) = some u) ∧ WF x := by
      intro i hi
      obtain ⟨cs', h1, h2⟩ := hx i (by omega)
      obtain ⟨_, hlen, hcell⟩ := World.cells?_some h1
      obtain ⟨x, hK, hW⟩ := he h2
      refine ⟨x, ⟨cs', by rw [hlen, hc], hK, fun j u hj => ?_⟩, hW⟩
      have hjl : j < P.cellsOf e := by rw [← hlen]; exact (List.getElem?_eq_some_iff.1 hj).1
      have := hcell j hjl
      rw [add_add_, hc] at this
      rw [this, hj]
    by_cases h0 : len = 0
    · subst h0
      exact ⟨[], ⟨some a, cap, rfl, Nat.zero_le _, ⟨rfl, Nat.zero_le _, fun h => absurd h (Nat.lt_irrefl 0)⟩⟩, fun x hx => by cases hx⟩
    · have hinh : Nonempty α := by obtain ⟨x, _⟩ := key 0 (by omega); exact ⟨x⟩
      have : Inhabited α := Classical.inhabited_of_nonempty hinh
      obtain ⟨f, hf⟩ := choose_lt key
      have hlen : ((List.range len).map f).length = len := by simp
      refine ⟨(List.range len).map f, ⟨some a, cap, by rw [hlen], by rw [hlen]; exact hl, ⟨rfl, by rw [hlen]; unfold maxLen at hm; omega, fun _ => ⟨a, rfl, fun j p hj => ?_⟩⟩⟩, fun x hx => ?_⟩
      · have hjl : j < len := by have := (List.getElem?_eq_some_iff.1 hj).1; rwa [hlen] at this
        have hp : p = f j := by
          rw [List.getElem?_map, List.getElem?_range hjl] at hj
          exact (Option.some.inj hj).symm
        subst hp
        exact (hf j hjl).1
      · obtain ⟨i, hi, rfl⟩ := List.mem_map.1 hx
        exact (hf i (List.mem_range.1 hi)).2
theorem opens_iso {d : Kd α} {WF : α → Prop} (f : β → α) (hs : ∀ a, ∃ b, f b = a) (h : Opens P w t d WF) : Opens P w t (Kd.iso d f) (fun b => WF (f b)) := by
  intro H enc base held n cs y hy
  obtain ⟨x, hK, hW⟩ := h hy
  obtain ⟨b, rfl⟩ := hs x
  exact ⟨b, hK, hW⟩
def segs (P : Program) : List TypeId → Nat
  | [] => 0
  | f :: fs => P.cellsOf f + segs P fs
def OpensL (P : Program) (w : World) (fs : List TypeId) {α : Type} (d : Kd α) (WF : α → Prop) : Prop :=
  ∀ {H : Type} {enc : TypeId × Value → H} {base : Nat} {held : Bool} {n : Nat} {cs : List Value}, cs.length = segs P fs →
    (∀ (j : Nat) (f : TypeId), fs[j]? = some f → ∃ y, DataW.trod enc P w base (fun _ => true) held n f ((cs.drop (segs P (fs.take j))).take (P.cellsOf f)) = some y) → ∃ x, d.K w x cs ∧ WF x
theorem opensL_one {d : Kd α} {WF : α → Prop} (h : Opens P w t d WF) : OpensL P w [t] d WF := by
  intro H enc base held n cs hl hj
  obtain ⟨y, hy⟩ := hj 0 t rfl
  have e1 : (cs.drop (segs P ([t].take 0))).take (P.cellsOf t) = cs := by
    show (cs.drop 0).take _ = cs
    rw [List.drop_zero]
    exact List.take_of_length_le (by rw [hl]; exact Nat.le_refl _)
  rw [e1] at hy
  exact h hy
theorem opensL_cons {fs : List TypeId} {d1 : Kd α} {d2 : Kd β} {W1 : α → Prop} {W2 : β → Prop} (h1 : Opens P w t d1 W1) (h2 : OpensL P w fs d2 W2) : OpensL P w (t :: fs) (Kd.pair d1 d2) (fun x => W1 x.1 ∧ W2 x.2) := by
  intro H enc base held n cs hl hj
  have hl' : cs.length = P.cellsOf t + segs P fs := hl
  obtain ⟨y, hy⟩ := hj 0 t rfl
  have e1 : (cs.drop (segs P ((t :: fs).take 0))).take (P.cellsOf t) = cs.take (P.cellsOf t) := by
    show (cs.drop 0).take _ = _
    rw [List.drop_zero]
  rw [e1] at hy
  obtain ⟨x, hK, hW⟩ := h1 hy
  obtain ⟨z, hK2, hW2⟩ := h2 (H := H) (enc := enc) (base := base) (held := held) (n := n) (cs := cs.drop (P.cellsOf t)) (by rw [List.length_drop]; omega) (fun j f hf => by
    obtain ⟨y', hy'⟩ := hj (j + 1) f hf
    refine ⟨y', ?_⟩
    rw [List.drop_drop]
    exact hy')
  exact ⟨(x, z), ⟨cs.take (P.cellsOf t), cs.drop (P.cellsOf t), (List.take_append_drop _ _).symm, hK, hK2⟩, hW, hW2⟩
def structOk (P : Program) (t : TypeId) (fs : Array Field) (ts : List TypeId) : Bool :=
  P.cellsOf t == segs P ts && fs.size == ts.length && (List.range ts.length).all fun j => match fs[j]?, ts[j]? with
    | some f, some u => f.type == u && f.offset == segs P (ts.take j)
    | _, _ => false
theorem opens_struct {fs : Array Field} {d : Kd α} {WF : α → Prop} (ts : List TypeId) (ht : P.underlying t = some (.struct fs)) (hok : structOk P t fs ts = true) (h : OpensL P w ts d WF) : Opens P w t d WF := by
  intro H enc base held n cs y hy
  obtain ⟨xs, m, _, _, hl, hxl, hf⟩ := DataW.trod_struct ht hy
  unfold structOk at hok
  simp only [Bool.and_eq_true, beq_iff_eq, List.all_eq_true, List.mem_range] at hok
  obtain ⟨⟨h1, h2⟩, h3⟩ := hok
  refine h (H := H) (enc := enc) (base := base) (held := held) (n := m) (by rw [hl, h1]) (fun j u hu => ?_)
  have hj : j < ts.length := (List.getElem?_eq_some_iff.1 hu).1
  have h4 := h3 j hj
  have hjf : fs[j]? = some (fs[j]'(by omega)) := Array.getElem?_eq_getElem (by omega)
  rw [hjf, hu] at h4
  simp only [Bool.and_eq_true, beq_iff_eq] at h4
  have h5 := hf j _ hjf
  rw [h4.1, h4.2] at h5
  exact ⟨_, h5.trans (List.getElem?_eq_getElem (by omega))⟩
theorem arg_slice {H : Type} {enc : TypeId × Value → H} {base : Nat} {held : Bool} {d : Kd α} {WF : List α → Prop} {a : Option Addr} {n c : Nat} {D : DataW H} {p : List MemPlace} (h : Opens P w t (Kd.slice e d) WF)
    (hT : DataW.Trod enc P w base (fun _ => true) held t (.slice a n c) D p) : ∃ xs, n = xs.length ∧ xs.length ≤ c ∧ Kd.C d w a xs.length xs ∧ WF xs := by
  obtain ⟨fuel, hf⟩ := hT
  obtain ⟨xs, ⟨A, c', he, hl, hC⟩, hW⟩ := h hf
  have he2 : Value.slice a n c = .slice A xs.length c' := by
    have he3 : [Value.slice a n c] = [Value.slice A xs.length c'] := he
    exact (List.cons.inj he3).1
  injection he2 with e1 e2 e3
  subst e1
  subst e3
  exact ⟨xs, e2, hl, hC, hW⟩
end
end Go.Proofs.Ytnmcoebjkfpmjaa.Opn
/-! WalkTwinPlays -/
namespace Go.Proofs.Ytnmcoebjkfpmjaa.P
open Go.RowKit Go.Proofs.YtnmcoebjkfpmjaaW.PrintWords Go.Proofs.YtnmcoebjkfpmjaaW.PrintLast Go.Proofs.YtnmcoebjkfpmjaaW.PrintMore
def antiphonlaw14_TwinPlays.Pure : Prop := ∀ (a0 : Int) (a1 : Int) (l2 : List (Int × S25)), (Lit.int .i64 a0).wf = true → (Lit.int .i64 a1).wf = true → l2.length ≤ 9223372036854775807 → (∀ yl2 ∈ l2, ((Lit.int .i64 yl2.1).wf = true) ∧ (((Lit.int .i64 yl2.2.f0).wf = true) ∧ ((Lit.int .i64 yl2.2.f1).wf = true) ∧ (True) ∧ ((Lit.int .i64 yl2.2.f3).wf = true) ∧ ((Lit.int .i64 yl2.2.f4).wf = true) ∧ ((Lit.int .i64 yl2.2.f5).wf = true) ∧ ((Lit.int .i64 yl2.2.f6).wf = true) ∧ (True) ∧ (∀ yyl22f8 ∈ yl2.2.f8, (Lit.int .u8 yyl22f8).wf = true))) → antiphonlaw14_TwinPlays.f a0 a1 l2 = some true
end Go.Proofs.Ytnmcoebjkfpmjaa.P
/-! PureTwinPlays -/
namespace Go.Proofs.Ytnmcoebjkfpmjaa.Pure
open Go.RowKit Go.Proofs.Ytnmcoebjkfpmjaa.P Go.Proofs.YtnmcoebjkfpmjaaW.PrintWords Go.Proofs.YtnmcoebjkfpmjaaW.PrintLast
theorem TwinPlays : antiphonlaw14_TwinPlays.Pure := by
  unfold antiphonlaw14_TwinPlays.Pure
  intros
  rfl
end Go.Proofs.Ytnmcoebjkfpmjaa.Pure
/-! LawTwinPlays -/
namespace Go.Proofs.Ytnmcoebjkfpmjaa.twinPlays
open Go.ChangeShapes Go.WideShapes Go.ChangeAt Go.RowKit
open Go.ChangeMaps (open_string shut_string)
open Go.Proofs.YtnmcoebjkfpmjaaW.PrintWords (Kd)
open P
set_option linter.unusedVariables false
theorem own : ownKnob Try.prog.godebug = none := by kernel_rfl
theorem laidOut : laidOutB Try.prog = true := by kernel_rfl
set_option maxRecDepth 100000 in
theorem lifted (os : Os) (started : os.Started) (H : Type) (enc : TypeId × Value → H) :
    ReturnsInHanded {} Try.checked os 21 .any (Rows.twinPlaysSpec.pre6 enc Try.prog Try.f21 Rows.twinPlaysRow.domain false) (Rows.twinPlaysSpec.post enc Try.prog Try.f21 false true false false) := by
  refine returnsInHanded_of_change_sized (C := Try.checked) own started (by kernel_rfl) Try.func21
    (ChangeSpec.witness6 (enc := enc) (C := Try.checked) false ⟨#[], #[.int .i64 0, .int .i64 0, .slice none 0 0], []⟩ 8 (by kernel_rfl) (by kernel_rfl) (by kernel_rfl) (by kernel_rfl)) ?_
  intro W base args ds gs before hval0 hW hcnd hsz0 _
  have hval : ∀ (j : Nat) t v, Try.f21.params[j]? = some t → args[j]? = some v → Value.okWide Try.prog W .any base t v := hval0
  have hW' := hW
  obtain ⟨p, q, hA0, hV, rfl, hfz, hnd⟩ := hW
  have hA : DataW.TrodAll enc Try.prog W 0 (fun _ => true) true Try.f21.params.toList args.toList ds p := hA0
  rw [Try.params21] at hA hval
  obtain ⟨v0, vs0, d0, ds0, p0, q0, hargs, rfl, rfl, h0, r0⟩ := trodAll_cons hA
  obtain ⟨v1, vs1, d1, ds1, p1, q1, rfl, rfl, rfl, h1, r1⟩ := trodAll_cons r0
  obtain ⟨v2, vs2, d2, ds2, p2, q2, rfl, rfl, rfl, h2, r2⟩ := trodAll_cons r1
  obtain ⟨rfl, rfl, rfl⟩ := trodAll_nil r2
  obtain rfl : args = #[v0, v1, v2] := by cases args; simp_all
  obtain ⟨rfl, rfl⟩ := trodVars_none hV
  obtain ⟨a0, rfl, rfl, rfl, w0⟩ := open_int Try.underlying3 (hval 0 3 v0 rfl rfl) h0
  obtain ⟨a1, rfl, rfl, rfl, w1⟩ := open_int Try.underlying3 (hval 1 3 v1 rfl rfl) h1
  obtain ⟨A2, n2, c2, rfl⟩ := okWide_slice Try.underlying95 (hval 2 95 v2 rfl rfl)
  have k2 := h2
  have lt2 : ∀ x ∈ p2, x.block < W.heap.size := by obtain ⟨m, hm⟩ := k2; exact DataW.trod_lt m _ _ _ hm
  obtain ⟨l2, rfl, hc2, hr2, hw2⟩ := Opn.arg_slice (d := (Kd.pair (Kd.int .i64) k25)) (Opn.opens_slice Try.underlying95 (by kernel_rfl) (Opn.opens_struct [3, 25] Try.underlying100 (by kernel_rfl) (Opn.opensL_cons (Opn.opens_int Try.underlying3) (Opn.opensL_one (Opn.opens_iso _ (fun ⟨x0, x1, x2, x3, x4, x5, x6, x7, x8⟩ => ⟨⟨x0, x1, x2, x3, x4, x5, x6, x7, x8⟩, rfl⟩) (Opn.opens_struct [3, 3, 4, 3, 3, 3, 3, 4, 23] Try.underlying25 (by kernel_rfl) (Opn.opensL_cons (Opn.opens_int Try.underlying3) (Opn.opensL_cons (Opn.opens_int Try.underlying3) (Opn.opensL_cons (Opn.opens_bool Try.underlying4) (Opn.opensL_cons (Opn.opens_int Try.underlying3) (Opn.opensL_cons (Opn.opens_int Try.underlying3) (Opn.opensL_cons (Opn.opens_int Try.underlying3) (Opn.opensL_cons (Opn.opens_int Try.underlying3) (Opn.opensL_cons (Opn.opens_bool Try.underlying4) (Opn.opensL_one (Opn.opens_slice Try.underlying23 (by kernel_rfl) (Opn.opens_int Try.underlying5))))))))))))))))) h2
  have hm2 : l2.length ≤ 9223372036854775807 := hr2.2.1
  clear hA0 hval0 hsz0 hval
  have h := Pure.TwinPlays a0 a1 l2 w0 w1 hm2 hw2
  refine (P.antiphonlaw14_TwinPlays.calls a0 a1 _ _ l2 true W hr2 hc2 h).mono fun e W' ⟨he, bel⟩ => ?_
  subst he
  exact ⟨_, rfl, _, _, _, [], _, [], hW', trodAll_mk1 (shut_bool Try.underlying4 _), (trodAll_cons_mk (shut_int Try.underlying3 w0) (trodAll_cons_mk (shut_int Try.underlying3 w1) (trodAll_cons_mk (Below.trod laidOut (by kernel_rfl) (of_decide_eq_true (by kernel_rfl)) k2 bel lt2) trodAll_mk0))), rfl, bel.frame _, fun h => by cases h⟩
theorem fact0 : (Rows.twinPlaysRow.wf (OpenSpec.ofChange Rows.twinPlaysSpec)) = true := by kernel_rfl
theorem fact1 : (laidOutB Try.prog) = true := Kit.laidOut
theorem fact2 : (mapsRowed Try.prog) = true := Kit.mapsRowed
theorem fact3 : (Try.f21.params.all (Try.prog.readableRec ·)) = true := by kernel_rfl
theorem fact4 : (namedTie Try.prog Rows.twinPlaysRow.named Rows.twinPlaysSpec.vars) = true := by kernel_rfl
theorem fact5 : ((Rows.twinPlaysRow.stops == [])) = true := by kernel_rfl
theorem fact6 : ((Try.prog.stops == [])) = true := Kit.stops
theorem fact7 : ((Rows.twinPlaysRow.knobs == [])) = true := by kernel_rfl
theorem fact8 : ((Try.prog.stopKnobs == [])) = true := Kit.stopKnobs
theorem fact9 : ((Rows.twinPlaysRow.inPlace == Try.prog.inPlace 21)) = true := by kernel_rfl
theorem fact10 : ((Rows.twinPlaysRow.unfollowed == Try.prog.unfollowed 21)) = true := by kernel_rfl
theorem fact11 : ((Rows.twinPlaysRow.recurses == Try.prog.recurses 21)) = true := by kernel_rfl
theorem fact12 : ((Rows.twinPlaysRow.named == Try.prog.varsNamed 21)) = true := by kernel_rfl
theorem fact13 : ((Rows.twinPlaysRow.maps == (Try.f21.params.toList ++ Rows.twinPlaysSpec.plain.varTypes Try.prog).any (Try.prog.mapsRec ·))) = true := by kernel_rfl
theorem fact14 : ((Rows.twinPlaysRow.ifaces == (Try.f21.params.toList ++ Rows.twinPlaysSpec.plain.varTypes Try.prog).any (Try.prog.ifacesRec ·))) = true := by kernel_rfl
theorem fact15 : ((Rows.twinPlaysRow.mapsOut == Try.prog.mapsAmong Try.f21.resultTypes.toList)) = true := by kernel_rfl
theorem fact16 : ((Rows.twinPlaysRow.loops == (Try.f21.params.toList ++ Rows.twinPlaysSpec.plain.varTypes Try.prog).any (Try.prog.loopsFrom ·))) = true := by kernel_rfl
theorem fact17 : ((Rows.twinPlaysRow.wideKeys == (Try.f21.params.toList ++ Rows.twinPlaysSpec.plain.varTypes Try.prog ++ Try.f21.resultTypes.toList).any (Try.prog.wideKeysFrom ·))) = true := by kernel_rfl
theorem fact18 : (Rows.twinPlaysSpec.vars.all (Try.prog.varReadable ·)) = true := by kernel_rfl
theorem fact19 : (Try.f21.resultTypes.all (fun t => Try.prog.readableRec t && decide (t < Try.prog.types.size))) = true := by kernel_rfl
theorem fact20 : ((Rows.twinPlaysRow.ifacesOut == Try.f21.resultTypes.toList.any (Try.prog.ifacesRec ·))) = true := by kernel_rfl
theorem fact21 : ((Rows.twinPlaysRow.loopsOut == Try.f21.resultTypes.toList.any (Try.prog.loopsFrom ·))) = true := by kernel_rfl
theorem fact22 : ((Rows.twinPlaysRow.plainKeys == Try.prog.plainKeys)) = true := (by rw [Kit.plainKeys]; rfl)
theorem fact23 : (Rows.twinPlaysRow.shortTexts.isNone) = true := by kernel_rfl
theorem fact24 : (Try.prog.stopsHeard) = true := Kit.stopsHeard
theorem fact25 : (Try.prog.mayEnter) = true := Kit.mayEnter
theorem fact26 : ((Rows.twinPlaysRow.lifted == Try.prog.liftsFinal)) = true := (by rw [Kit.liftsFinal]; rfl)
theorem fact27 : ((Try.prog.make == some Rows.twinPlaysRow.make)) = true := (by rw [Kit.make]; rfl)
theorem fact28 : ((Rows.twinPlaysRow.kinds == (if Rows.twinPlaysRow.domain.isEmpty then [] else Try.f21.params.toList.map fun t => match Try.prog.underlying t with | some (.int k) => some k | _ => none))) = true := by kernel_rfl
theorem fact29 : ((Rows.twinPlaysRow.pinned == Rows.twinPlaysRow.pinnedBy)) = true := by kernel_rfl
theorem fact30 : ((Rows.twinPlaysRow.veiled == (Try.f21.params.toList ++ Rows.twinPlaysSpec.plain.varTypes Try.prog ++ Try.f21.resultTypes.toList).any (Try.prog.veiledRec ·))) = true := by kernel_rfl
theorem fact31 : (Rows.twinPlaysRow.veiledFits Try.prog Try.f21.params.toList (Try.f21.params.toList ++ Rows.twinPlaysSpec.plain.varTypes Try.prog ++ Try.f21.resultTypes.toList)) = true := by kernel_rfl
set_option maxRecDepth 100000 in
theorem closed : joinedFacts Try.prog 21 Try.f21 Rows.twinPlaysSpec Rows.twinPlaysRow = true := by
  unfold joinedFacts
  exact (Kit.and2 (Kit.and2 (Kit.and2 (Kit.and2 (Kit.and2 (Kit.and2 (Kit.and2 (Kit.and2 (Kit.and2 (Kit.and2 (Kit.and2 (Kit.and2 (Kit.and2 (Kit.and2 (Kit.and2 (Kit.and2 (Kit.and2 (Kit.and2 (Kit.and2 (Kit.and2 (Kit.and2 (Kit.and2 (Kit.and2 (Kit.and2 (Kit.and2 (Kit.and2 (Kit.and2 (Kit.and2 (Kit.and2 (Kit.and2 (Kit.and2 fact0 fact1) fact2) fact3) fact4) fact5) fact6) fact7) fact8) fact9) fact10) fact11) fact12) fact13) fact14) fact15) fact16) fact17) fact18) fact19) fact20) fact21) fact22) fact23) fact24) fact25) fact26) fact27) fact28) fact29) fact30) fact31)
theorem named : Try.prog.funcNamed Rows.twinPlaysRow.func = some 21 := by kernel_rfl
theorem inst : Try.f21.isInstance Try.prog Rows.twinPlaysRow.origin Rows.twinPlaysRow.targs := of_decide_eq_true (by kernel_rfl)
theorem wrap_ : Try.f21.isWrapper Try.prog Rows.twinPlaysRow.wrapper Rows.twinPlaysRow.mainSum := by unfold Func.isWrapper; first | (rw [if_pos (by decide +kernel)]; kernel_rfl) | (rw [if_neg (by decide +kernel)]; exact ⟨rfl, rfl⟩)
theorem over : Rows.twinPlaysRow.holds Try.pinned (OpenSpec.ofChange Rows.twinPlaysSpec) :=
  OpenClaim.holds_of_wide 21 Try.f21 rfl rfl rfl rfl rfl rfl rfl ⟨rfl, rfl, rfl, rfl, rfl⟩ rfl rfl rfl rfl rfl named Try.func21 closed
    inst wrap_
    (fun os started H enc _ => lifted os started H enc)
theorem proved : Rows.TwinPlaysSaid := over
#print axioms proved
end Go.Proofs.Ytnmcoebjkfpmjaa.twinPlays
namespace Go.Proofs.Ytnmcoebjkfpmjaa
theorem twinPlays_holds : Rows.TwinPlaysSaid := twinPlays.proved
end Go.Proofs.Ytnmcoebjkfpmjaa
