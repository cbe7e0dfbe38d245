-- Laid by a program of this session (wip/print2).
import Derived.Test.YtnmcoebjkfpmjaaPx0
import Derived.Test.YtnmcoebjkfpmjaaPx35
import Derived.Test.YtnmcoebjkfpmjaaPx87
import Derived.Test.YtnmcoebjkfpmjaaPx88
import Derived.Test.YtnmcoebjkfpmjaaPx89
import Derived.Test.YtnmcoebjkfpmjaaPx90
import Derived.Test.YtnmcoebjkfpmjaaPx91
import Derived.Test.YtnmcoebjkfpmjaaPx100
import Derived.Test.YtnmcoebjkfpmjaaPx102
import Derived.Test.YtnmcoebjkfpmjaaPx118
import Derived.Test.YtnmcoebjkfpmjaaPx119
namespace Go.Proofs.Ytnmcoebjkfpmjaa.P
open Go.RowKit Go.Proofs.YtnmcoebjkfpmjaaW.PrintWords Go.Proofs.YtnmcoebjkfpmjaaW.PrintLast Go.Proofs.YtnmcoebjkfpmjaaW.PrintMore
attribute [local go_sem] max2_int min2_int max_two min_two max_three min_three max_four min_four   -- for this text's walks alone
set_option linter.unusedVariables false
set_option linter.unusedSimpArgs false

/-! ### pdu_Decode: function 29 -/
/-- The last place below j at which x stands in l, or -1. -/
def kindTo (l : List Int) (x : Int) : Nat → Int
  | 0 => -1
  | j + 1 => if rd l j = x then (j : Int) else kindTo l x j
abbrev PduR := Int × Int × Bool × Int × Int × Int × Int × Bool × List Int × Int
def pduBad (e : Int) : PduR := (0, 0, false, 0, 0, 0, 0, false, [], e)
def pdu_Decode.fin (k : Nat) (t_ f_ : Int) (resp : Bool) (form kind ns nr : Int) (poll : Bool) (info : List Int) : Option PduR :=
  (pdu_May.f k t_ f_ resp form kind ns nr poll info).bind fun m => if m = true then some (t_, f_, resp, form, kind, ns, nr, poll, info, 0) else some (pduBad 4)
def pdu_Decode.f (k : Nat) (l0 : List Int) : Option (Int × Int × Bool × Int × Int × Int × Int × Bool × List Int × Int) :=
  if l0.length < 3 then some (pduBad 2) else if l0.length < 140737488355328 then
    (octet_Get.f k (l0.take 1)).bind fun t1 => (octet_Get.f k ((l0.drop 1).take 1)).bind fun t2 => (octet_Get.f k ((l0.drop 2).take 1)).bind fun t3 =>
      if Go.bits .and .i64 t3 3 = 3 then pdu_codes.f.bind fun cs =>
        pdu_Decode.fin k t1 (Go.bits .andNot .i64 t2 1) (Go.bits .and .i64 t2 1 == 1) 2 (kindTo cs (Go.bits .andNot .i64 t3 16) cs.length) 0 0 (Go.bits .and .i64 t3 16 != 0) (l0.drop 3)
      else if l0.length < 4 then some (pduBad 2) else (octet_Get.f k ((l0.drop 3).take 1)).bind fun t4 =>
        if Go.bits .and .i64 t3 1 = 0 then pdu_Decode.fin k t1 (Go.bits .andNot .i64 t2 1) (Go.bits .and .i64 t2 1 == 1) 0 0 (t3 / 2) (t4 / 2) (Go.bits .and .i64 t4 1 == 1) (l0.drop 4)
        else pdu_Decode.fin k t1 (Go.bits .andNot .i64 t2 1) (Go.bits .and .i64 t2 1 == 1) 1 (t3 / 4) 0 (t4 / 2) (Go.bits .and .i64 t4 1 == 1) (l0.drop 4)
  else none
theorem pdu_Decode.mono : ∀ a0 k, LeO (pdu_Decode.f k a0) (pdu_Decode.f (k + 1) a0) := by
  intro a0 k
  unfold pdu_Decode.f pdu_Decode.fin
  repeat' first
      | (with_reducible exact octet_Get.mono _ _)
      | (with_reducible exact pdu_May.mono _ _ _ _ _ _ _ _ _ _)
      | (with_reducible exact LeO.refl _)
      | (with_reducible exact LeO.none _)
      | (with_reducible refine LeO.ite ?_ ?_)
      | (with_reducible refine LeO.bind ?_ (fun _ => ?_))

abbrev DecPost (w : World) (r1 r2 : Int) (r3 : Bool) (r4 r5 r6 r7 : Int) (r8 : Bool) (r9 : List Int) (r10 : Int) (e : Ending) (w' : World) : Prop :=
  ∃ v8_ : Value, e = .returned (.tuple #[.agg #[.int .i64 r1, .int .i64 r2, .bool r3, .int .i64 r4, .int .i64 r5, .int .i64 r6, .int .i64 r7, .bool r8, v8_], .int .i64 r10]) ∧ Kd.R (Kd.int .u8) 5 w' w.heap.size (fun _ => True) v8_ r9 ∧ Below w.heap.size w w'

theorem get_one (x : Int) : octet_Get.f 3 [x] = some (Go.bits .or .i64 (wrap64 (0 * 256)) (wrap64 x)) := by
  have hl : (([x] : List Int).length : Int) = 1 := rfl
  have hm : octet_may.f 1 = some true := by decide
  have h1 : wrap64 ((0 : Int) + 1) = 1 := by decide +kernel
  unfold octet_Get.f
  rw [hl, hm]
  simp only [Option.bind_some, if_true, octet_Get.l0]
  rw [hl, h1]
  simp [rd]
/-- What one Num(1) leaves. -/
def rdOne (l : List Int) (b : Bool) : List Int × Bool := if b = false ∧ 1 ≤ l.length then (l.drop 1, false) else (l, true)
theorem octet_Reader_Num.one (w0 w : World) (g : Nat) (l : List Int) (b : Bool) (h : IsRd w0 w g l b) (hB : Below w0.heap.size w0 w) (hl : l.length < 140737488355328) :
    Calls Try.prog 87 #[.pointer (some ⟨g, 0, none⟩), .int .i64 1] w fun e w' => ∃ r : Int, e = .returned (.int .i64 r) ∧ IsRd w0 w' g (rdOne l b).1 (rdOne l b).2 ∧ w.grownBy w' (some g) := by
  by_cases hc : b = false ∧ 1 ≤ l.length
  · obtain ⟨rfl, h1⟩ := hc
    obtain ⟨x, hx⟩ : ∃ x, l.take 1 = [x] := by
      cases l with
      | nil => simp at h1
      | cons x r => exact ⟨x, rfl⟩
    refine (octet_Reader_Num.yes 3 w0 w g l 1 _ h hB (by omega) (by omega) (by omega) hl (by rw [show (1 : Int).toNat = 1 from rfl, hx]; exact get_one x)).mono ?_
    rintro e w' ⟨rfl, hI, hg⟩
    refine ⟨_, rfl, ?_, hg⟩
    unfold rdOne
    rw [if_pos ⟨rfl, h1⟩]
    exact hI
  · refine (octet_Reader_Num.no w0 w g l b 1 h hB ?_).mono ?_
    · cases b with
      | true => exact .inr (.inr (.inl rfl))
      | false => exact .inr (.inr (.inr (by
          have : ¬ 1 ≤ l.length := fun h1 => hc ⟨rfl, h1⟩
          omega)))
    · rintro e w' ⟨rfl, hI, hg⟩
      refine ⟨_, rfl, ?_, hg⟩
      unfold rdOne
      rw [if_neg hc]
      exact hI

set_option maxHeartbeats 2000000 in
/-- Too short for a control. -/
theorem pdu_Decode.short (A0 : Option Addr) (c0 : Nat) (l0 : List Int) (w : World) (hr0 : Kd.C (Kd.int .u8) w A0 l0.length l0) (hc0 : l0.length ≤ c0) (h : l0.length < 3) :
    Calls Try.prog 29 #[.slice A0 l0.length c0] w fun e w' => e = .returned (.tuple #[.agg #[.int .i64 0, .int .i64 0, .bool false, .int .i64 0, .int .i64 0, .int .i64 0, .int .i64 0, .bool false, .slice none 0 0], .int .i64 2]) ∧ Below w.heap.size w w' := by
  have hu := Try.underlying25
  have HR := Aside0.mk hr0
  have HC := Aside0.mk hc0
  have HL := Aside0.mk (show l0.length < 140737488355328 by omega)
  obtain ⟨l1, b1, e1⟩ : ∃ l b, rdOne l0 false = (l, b) := ⟨_, _, rfl⟩
  obtain ⟨l2, b2, e2⟩ : ∃ l b, rdOne l1 b1 = (l, b) := ⟨_, _, rfl⟩
  obtain ⟨l3, b3, e3⟩ : ∃ l b, rdOne l2 b2 = (l, b) := ⟨_, _, rfl⟩
  have hb3 : b3 = true ∧ l1.length ≤ l0.length ∧ l2.length ≤ l0.length := by
    unfold rdOne at e1 e2 e3
    split at e1 <;> split at e2 <;> split at e3 <;> simp_all <;> (try obtain ⟨rfl, rfl⟩ := e1) <;> (try obtain ⟨rfl, rfl⟩ := e2) <;> (try obtain ⟨rfl, rfl⟩ := e3) <;> simp_all <;> omega
  obtain ⟨rfl, hl1, hl2⟩ := hb3
  have HL1 := Aside0.mk (show l1.length < 140737488355328 by omega)
  have HL2 := Aside0.mk (show l2.length < 140737488355328 by omega)
  have E1 := Aside0.mk e1
  have E2 := Aside0.mk e2
  have E3 := Aside0.mk e3
  clear hr0 hc0 h e1 e2 e3 hl1 hl2
  go_enter Try.func29, Try.ntmps29
  go_wp2_with fail
  refine (octet_New.calls _ _ l0 _ (Kd.C_below HR.out ?_) HC.out HL.out).mono ?_
  · exact below_alloc (Below.refl _ _) _
  rintro e w2 ⟨g, w1, rfl, hB, hB1, hI⟩
  have HB := Aside0.mk hB
  have HB1 := Aside0.mk hB1
  have HI := Aside0.mk hI
  have HG := Aside0.mk hI.ge
  clear hB hB1 hI
  go_wp2_with fail
  refine (octet_Reader_Num.one w1 _ g l0 false HI.out HB1.out HL.out).mono ?_
  rintro e w3 ⟨r1, rfl, hI, hg⟩
  rw [E1.out] at hI
  have HI3 := Aside0.mk hI
  have HB3 := Aside0.mk (below_rd HB1.out hg HG.out)
  clear hI hg
  go_wp2_with fail
  refine (octet_Reader_Num.one w1 _ g l1 b1 HI3.out HB3.out HL1.out).mono ?_
  rintro e w4 ⟨r2, rfl, hI, hg⟩
  rw [E2.out] at hI
  have HI4 := Aside0.mk hI
  have HB4 := Aside0.mk (below_rd HB3.out hg HG.out)
  clear hI hg
  go_wp2_with fail
  refine (octet_Reader_Num.one w1 _ g l2 b2 HI4.out HB4.out HL2.out).mono ?_
  rintro e w5 ⟨r3, rfl, hI, hg⟩
  rw [E3.out] at hI
  have HI5 := Aside0.mk hI
  have HB5 := Aside0.mk (below_rd HB4.out hg HG.out)
  clear hI hg
  have hbk := blk_below (blk_below (blk_new w (.cells #[.int .i64 0, .int .i64 0, .bool false, .int .i64 0, .int .i64 0, .int .i64 0, .int .i64 0, .bool false, .slice none 0 0] 25)) HB.out) HB5.out
  have hbel : Below w.heap.size w w5 := below_then (below_then (below_alloc (Below.refl _ _) _) (by simp) HB.out) (by have := HB.out.size; simp at this; omega) HB5.out
  have HBEL := Aside0.mk hbel
  have q0 : w5.cell? ⟨w.heap.size, 0, none⟩ = some (.int .i64 0) := (blk_cell hbk 0).trans rfl
  have q1 : w5.cell? ⟨w.heap.size, 1, none⟩ = some (.int .i64 0) := (blk_cell hbk 1).trans rfl
  have q2 : w5.cell? ⟨w.heap.size, 2, none⟩ = some (.bool false) := (blk_cell hbk 2).trans rfl
  have q3 : w5.cell? ⟨w.heap.size, 3, none⟩ = some (.int .i64 0) := (blk_cell hbk 3).trans rfl
  have q4 : w5.cell? ⟨w.heap.size, 4, none⟩ = some (.int .i64 0) := (blk_cell hbk 4).trans rfl
  have q5 : w5.cell? ⟨w.heap.size, 5, none⟩ = some (.int .i64 0) := (blk_cell hbk 5).trans rfl
  have q6 : w5.cell? ⟨w.heap.size, 6, none⟩ = some (.int .i64 0) := (blk_cell hbk 6).trans rfl
  have q7 : w5.cell? ⟨w.heap.size, 7, none⟩ = some (.bool false) := (blk_cell hbk 7).trans rfl
  have q8 : w5.cell? ⟨w.heap.size, 8, none⟩ = some (.slice none 0 0) := (blk_cell hbk 8).trans rfl
  have f0 : w5.frozen? ⟨w.heap.size, 0, none⟩ = false := blk_frozen hbk 0
  have f1 : w5.frozen? ⟨w.heap.size, 1, none⟩ = false := blk_frozen hbk 1
  have f2 : w5.frozen? ⟨w.heap.size, 2, none⟩ = false := blk_frozen hbk 2
  have f3 : w5.frozen? ⟨w.heap.size, 3, none⟩ = false := blk_frozen hbk 3
  have f4 : w5.frozen? ⟨w.heap.size, 4, none⟩ = false := blk_frozen hbk 4
  have f5 : w5.frozen? ⟨w.heap.size, 5, none⟩ = false := blk_frozen hbk 5
  have f6 : w5.frozen? ⟨w.heap.size, 6, none⟩ = false := blk_frozen hbk 6
  have f7 : w5.frozen? ⟨w.heap.size, 7, none⟩ = false := blk_frozen hbk 7
  have f8 : w5.frozen? ⟨w.heap.size, 8, none⟩ = false := blk_frozen hbk 8
  clear hbk hbel
  go_wp2_with (go_at_call 88; refine (octet_Reader_Fail.rd w1 _ g l3 true HI5.out).mono ?_; rintro e w6 ⟨rfl, rfl⟩)
  refine bodyPost_ret (v := .tuple #[.agg #[.int .i64 0, .int .i64 0, .bool false, .int .i64 0, .int .i64 0, .int .i64 0, .int .i64 0, .bool false, .slice none 0 0], .int .i64 2]) (by simp [results, Try.results29, go_sem, hu, q0, q1, q2, q3, q4, q5, q6, q7, q8, f0, f1, f2, f3, f4, f5, f6, f7, f8]) rfl ⟨rfl, ?_⟩
  repeat (with_reducible refine below_set ?_ (Nat.le_refl _))
  exact HBEL.out

theorem IsRd.only {w0 W W1 : World} {g g' : Nat} {l : List Int} {b : Bool} (h : IsRd w0 W g l b) (hw : W.grownBy W1 (some g')) (hne : g ≠ g') : IsRd w0 W1 g l b := by
  obtain ⟨A0, c0, hb, h2⟩ := h
  exact ⟨A0, c0, blk_grown hb hw (fun e => hne (by injection e)), h2⟩
theorem IsRd.lt {w0 W : World} {g : Nat} {l : List Int} {b : Bool} (h : IsRd w0 W g l b) : g < W.heap.size := by
  obtain ⟨A0, c0, hb, h2⟩ := h
  exact blk_lt hb
theorem fin_cases {k : Nat} {t f : Int} {resp : Bool} {form kind ns nr : Int} {poll : Bool} {info : List Int} {r : PduR} (h : pdu_Decode.fin k t f resp form kind ns nr poll info = some r) :
    (pdu_May.f k t f resp form kind ns nr poll info = some true ∧ (t, f, resp, form, kind, ns, nr, poll, info, 0) = r) ∨ (pdu_May.f k t f resp form kind ns nr poll info = some false ∧ pduBad 4 = r) := by
  unfold pdu_Decode.fin at h
  obtain ⟨m, hm, h⟩ := Option.bind_eq_some_iff.mp h
  cases m with
  | true => exact .inl ⟨hm, by simpa using h⟩
  | false => exact .inr ⟨hm, by simpa using h⟩

set_option maxHeartbeats 8000000 in
set_option maxRecDepth 100000 in
theorem pdu_Decode.long (k : Nat) (A0 : Option Addr) (c0 : Nat) (l0 : List Int) (r1 r2 : Int) (r3 : Bool) (r4 r5 r6 r7 : Int) (r8 : Bool) (r9 : List Int) (r10 : Int) (w : World) (hr0 : Kd.C (Kd.int .u8) w A0 l0.length l0) (hc0 : l0.length ≤ c0) (h3 : ¬ l0.length < 3) (h : pdu_Decode.f k l0 = some (r1, r2, r3, r4, r5, r6, r7, r8, r9, r10)) :
    Calls Try.prog 29 #[.slice A0 l0.length c0] w (DecPost w r1 r2 r3 r4 r5 r6 r7 r8 r9 r10) := by
  have hu := Try.underlying25
  unfold pdu_Decode.f at h
  rw [if_neg h3] at h
  have hlen : l0.length < 140737488355328 := by
    by_cases hlen : l0.length < 140737488355328
    · exact hlen
    · rw [if_neg hlen] at h; cases h
  rw [if_pos hlen] at h
  obtain ⟨t1, e1, h⟩ := Option.bind_eq_some_iff.mp h
  obtain ⟨t2, e2, h⟩ := Option.bind_eq_some_iff.mp h
  obtain ⟨t3, e3, h⟩ := Option.bind_eq_some_iff.mp h
  have E1 := Aside0.mk e1
  have E2 := Aside0.mk e2
  have E3 := Aside0.mk e3
  have H := Aside0.mk h
  have HR := Aside0.mk hr0
  have HC := Aside0.mk hc0
  have H3 := Aside0.mk h3
  have HL := Aside0.mk hlen
  have HD1 := Aside0.mk (show 2 ≤ (l0.drop 1).length ∧ (l0.drop 1).length ≤ l0.length by rw [List.length_drop]; omega)
  have HD2 := Aside0.mk (show 1 ≤ (l0.drop 2).length ∧ (l0.drop 2).length ≤ l0.length by rw [List.length_drop]; omega)
  have HD3 := Aside0.mk (show (l0.drop 3).length + 3 = l0.length by rw [List.length_drop]; omega)
  clear e1 e2 e3 h hr0 hc0 h3 hlen
  go_enter Try.func29, Try.ntmps29
  go_wp2_with fail
  refine (octet_New.calls _ _ l0 _ (Kd.C_below HR.out ?_) HC.out HL.out).mono ?_
  · exact below_alloc (Below.refl _ _) _
  rintro e w2 ⟨g, w1, rfl, hB, hB1, hI⟩
  have HB := Aside0.mk hB
  have HB1 := Aside0.mk hB1
  have HI := Aside0.mk hI
  have HG := Aside0.mk hI.ge
  clear hB hB1 hI
  go_wp2_with fail
  refine (octet_Reader_Num.yes k w1 _ g l0 1 t1 HI.out HB1.out (by omega) (by omega) (by have := H3.out; omega) HL.out E1.out).mono ?_
  rintro e w3 ⟨rfl, hI, hg⟩
  have HI3 := Aside0.mk (show IsRd w1 w3 g (l0.drop 1) false from hI)
  have HB3 := Aside0.mk (below_rd HB1.out hg HG.out)
  clear hI hg
  go_wp2_with fail
  refine (octet_Reader_Num.yes k w1 _ g (l0.drop 1) 1 t2 HI3.out HB3.out (by omega) (by omega) (by have := HD1.out; omega) (by have := HD1.out; have := HL.out; omega) E2.out).mono ?_
  rintro e w4 ⟨rfl, hI, hg⟩
  have hI : IsRd w1 w4 g ((l0.drop 1).drop 1) false := hI
  rw [List.drop_drop] at hI
  have HI4 := Aside0.mk (show IsRd w1 w4 g (l0.drop 2) false from hI)
  have HB4 := Aside0.mk (below_rd HB3.out hg HG.out)
  clear hI hg
  go_wp2_with fail
  refine (octet_Reader_Num.yes k w1 _ g (l0.drop 2) 1 t3 HI4.out HB4.out (by omega) (by omega) (by have := HD2.out; omega) (by have := HD2.out; have := HL.out; omega) E3.out).mono ?_
  rintro e w5 ⟨rfl, hI, hg⟩
  have hI : IsRd w1 w5 g ((l0.drop 2).drop 1) false := hI
  rw [List.drop_drop] at hI
  have HI5 := Aside0.mk (show IsRd w1 w5 g (l0.drop 3) false from hI)
  have HB5 := Aside0.mk (below_rd HB4.out hg HG.out)
  clear hI hg
  obtain ⟨inf, hinf⟩ : ∃ x, l0.drop 3 = x := ⟨_, rfl⟩
  rw [hinf] at HI5 HD3
  have hbk := blk_below (blk_below (blk_new w (.cells #[.int .i64 0, .int .i64 0, .bool false, .int .i64 0, .int .i64 0, .int .i64 0, .int .i64 0, .bool false, .slice none 0 0] 25)) HB.out) HB5.out
  have hbel : Below w.heap.size w w5 := below_then (below_then (below_alloc (Below.refl _ _) _) (by simp) HB.out) (by have := HB.out.size; simp at this; omega) HB5.out
  have HBK := Aside0.mk hbk
  have HBEL := Aside0.mk hbel
  have HLT := Aside0.mk (And.intro (blk_lt hbk) HI5.out.lt)
  have h := H.out
  have HINF := Aside0.mk hinf
  clear hbk hbel H hinf HI HI3 HI4 HB1 HB3 HB4 E1 E2 E3
  go_wp2_with fail
  refine (octet_Reader_Fail.rd w1 _ g inf false HI5.out).mono ?_
  rintro e w5' ⟨rfl, rfl⟩
  by_cases c1 : Go.bits .and .i64 t3 3 = 3
  · rw [if_pos c1] at h
    obtain ⟨cs, ecs, h⟩ := Option.bind_eq_some_iff.mp h
    have ECS := Aside0.mk ecs
    rw [HINF.out] at h
    have H := Aside0.mk h
    have c1' : (Go.bits .and .i64 t3 3 == 3) = true := beq_iff_eq.mpr c1
    clear c1 ecs h
    go_wp2_with fail
    refine (pdu_codes.calls cs _ ECS.out).mono ?_
    rintro e w6 ⟨v6, rfl, hR6, hB6⟩
    have hlc : 0 < cs.length := by
      have : pdu_codes.f = some [3, 175, 227, 111, 67, 99, 15, 135, 103, 231] := rfl
      rw [this] at ECS
      have := ECS.out
      injection this with this
      rw [← this]; simp
    have hl10 : cs.length ≤ 10 := by
      have : pdu_codes.f = some [3, 175, 227, 111, 67, 99, 15, 135, 103, 231] := rfl
      rw [this] at ECS
      have := ECS.out
      injection this with this
      rw [← this]; simp
    obtain ⟨inner, ho⟩ := Kd.R_own hR6
    obtain ⟨gc, capc, rfl, hgb, hgl⟩ := ho.form hlc
    have HR6 := Aside0.mk hR6
    have HB6 := Aside0.mk hB6
    have HGC := Aside0.mk (And.intro hgb hgl)
    have HP6 := Aside0.mk (blk_below (blk_new w5 (.cells #[.int .i64 t1, .int .i64 (Go.bits .andNot .i64 t2 1), .bool (Go.bits .and .i64 t2 1 == 1), .int .i64 2, .int .i64 (-1), .int .i64 0, .int .i64 0, .bool (Go.bits .and .i64 t3 16 != 0), .slice none 0 0] 25)) hB6)
    clear hR6 hB6 hgb hgl ho
    go_wp2_with fail
    go_loopw [46] (fun v46 wr => ∃ j : Nat, j ≤ cs.length ∧ v46 = .int .i64 j ∧ Aside0 (wr.heap[w5.heap.size]? = some (.cells #[.int .i64 t1, .int .i64 (Go.bits .andNot .i64 t2 1), .bool (Go.bits .and .i64 t2 1 == 1), .int .i64 2, .int .i64 (kindTo cs (Go.bits .andNot .i64 t3 16) j), .int .i64 0, .int .i64 0, .bool (Go.bits .and .i64 t3 16 != 0), .slice none 0 0] 25 (0, 0))) ∧ Aside0 (w6.grownBy wr (some w5.heap.size))) (fun v46 _ => cs.length - (intOf v46).toNat)
    case atStart => exact ⟨0, Nat.zero_le _, rfl, HP6, ⟨World.grownBy.refl _ _⟩⟩
    case round =>
      obtain ⟨j, hj, rfl, HPr, HGr⟩ := hrel
      by_cases hlt : j < cs.length
      · have hcc : w6.cell? ⟨gc, j, none⟩ = some (.int .i64 (rd cs j)) := by
          have := (Kd.R_cell (enc := Value.int .i64) (0 : Int) HR6.out j (by omega) (by omega)).1
          rwa [Int.toNat_natCast] at this
        have hne : gc ≠ w5.heap.size := by have := HGC.out.1; simp at this; omega
        have hcr : wr.cell? ⟨gc, j, none⟩ = some (.int .i64 (rd cs j)) := (World.cell?_of_block (a := ⟨gc, j, none⟩) (HGr.out.block gc HGC.out.2 (fun e => hne (by injection e)))).trans hcc
        have hk4 : wr.cell? ⟨w5.heap.size, 4, none⟩ = some (.int .i64 (kindTo cs (Go.bits .andNot .i64 t3 16) j)) := (blk_cell HPr.out 4).trans rfl
        have hf4 : wr.frozen? ⟨w5.heap.size, 4, none⟩ = false := blk_frozen HPr.out 4
        by_cases hc : rd cs j = Go.bits .andNot .i64 t3 16
        · have hc' : (rd cs j == Go.bits .andNot .i64 t3 16) = true := beq_iff_eq.mpr hc
          have HK := Aside0.mk (show kindTo cs (Go.bits .andNot .i64 t3 16) (j + 1) = (j : Int) by rw [kindTo, if_pos hc])
          clear hc hcc hne
          go_wp2
          refine ⟨⟨j + 1, by omega, by go_num, ⟨?_⟩, ⟨World.grownBy.trans HGr.out (only_set 4 _)⟩⟩, by simp [intOf]; omega⟩
          rw [HK.out]
          exact blk_put HPr.out 4 _ rfl
        · have hc' : (rd cs j == Go.bits .andNot .i64 t3 16) = false := beq_eq_false_iff_ne.mpr hc
          have HK := Aside0.mk (show kindTo cs (Go.bits .andNot .i64 t3 16) (j + 1) = kindTo cs (Go.bits .andNot .i64 t3 16) j by rw [kindTo, if_neg hc])
          clear hc hcc hne
          go_wp2
          refine ⟨⟨j + 1, by omega, by go_num, ⟨?_⟩, HGr⟩, by simp [intOf]; omega⟩
          rw [HK.out]
          exact HPr.out
      · obtain rfl : j = cs.length := by omega
        have hne : g ≠ w5.heap.size := by have := HLT.out.2; omega
        have HI7 := Aside0.mk (((HI5.out.below (below_alloc (Below.refl _ _) _)).below HB6.out).only HGr.out hne)
        have hB7 : Below w1.heap.size w1 wr := by
          have h1 := below_step (below_alloc HB5.out (.cells #[.int .i64 t1, .int .i64 (Go.bits .andNot .i64 t2 1), .bool (Go.bits .and .i64 t2 1 == 1), .int .i64 2, .int .i64 (-1), .int .i64 0, .int .i64 0, .bool (Go.bits .and .i64 t3 16 != 0), .slice none 0 0] 25)) HB6.out
          exact h1.grown HGr.out h1.size (fun k hk => by cases hk; exact HB5.out.size)
        have HB7 := Aside0.mk hB7
        have hres : wr.heap[w.heap.size]? = some (.cells #[.int .i64 0, .int .i64 0, .bool false, .int .i64 0, .int .i64 0, .int .i64 0, .int .i64 0, .bool false, .slice none 0 0] 25 (0, 0)) := blk_grown (blk_below (blk_alloc HBK.out _) HB6.out) HGr.out (fun e => by injection e with e; have := HLT.out.1; omega)
        have HRES := Aside0.mk hres
        have hbw : Below w.heap.size w wr := by
          have h1 := below_step (below_alloc HBEL.out (.cells #[.int .i64 t1, .int .i64 (Go.bits .andNot .i64 t2 1), .bool (Go.bits .and .i64 t2 1 == 1), .int .i64 2, .int .i64 (-1), .int .i64 0, .int .i64 0, .bool (Go.bits .and .i64 t3 16 != 0), .slice none 0 0] 25)) HB6.out
          exact h1.grown HGr.out h1.size (fun k hk => by cases hk; exact HBEL.out.size)
        have HBW := Aside0.mk hbw
        clear hne hB7 hlt hj hres hbw
        go_wp2_with fail
        refine (octet_Reader_Rest.yes w1 _ g inf HI7.out HB7.out (by have := HD3.out; have := HL.out; omega)).mono ?_
        rintro e w7 ⟨v7, rfl, hR7, hI7, hg7⟩
        obtain ⟨A8, c8, rfl, hc8, hC8⟩ := Kd.R_reads hR7
        have hgp : w5.heap.size ≠ g := by have := HLT.out.2; omega
        have hgr : w.heap.size < g := by
          have h1 := HI5.out.ge
          have h2 := blk_lt (blk_below (blk_new w (.cells #[.int .i64 0, .int .i64 0, .bool false, .int .i64 0, .int .i64 0, .int .i64 0, .int .i64 0, .bool false, .slice none 0 0] 25)) HB.out)
          omega
        have hrp : w.heap.size ≠ w5.heap.size := by have := HLT.out.1; omega
        have hp7 := blk_grown HPr.out hg7 (fun e => hgp (by injection e))
        have hz7 := blk_grown HRES.out hg7 (fun e => by injection e with e; omega)
        have hsz : w5.heap.size < wr.heap.size ∧ w.heap.size < wr.heap.size := ⟨blk_lt HPr.out, blk_lt HRES.out⟩
        have HR8 := Aside0.mk (Kd.R_far (Kd.R_mono (Kd.R_bound hR7) (ok' := fun k => k ≠ w5.heap.size ∧ k ≠ w.heap.size) (fun k hk => by have := hk.2.1; omega)) (p := ⟨w5.heap.size, 8, none⟩) (fun k hk => hk.1) (.slice A8 inf.length c8))
        have HP8 := Aside0.mk (blk_put hp7 8 (.slice A8 inf.length c8) rfl)
        have HRES8 := Aside0.mk (blk_far hz7 (p := ⟨w5.heap.size, 8, none⟩) hrp (.slice A8 inf.length c8))
        have HC8 := Aside0.mk (Kd.R_reads' HR8.out).2.2
        have HCL8 := Aside0.mk hc8
        have HB8 := Aside0.mk (below_set (g := w5.heap.size) (j := 8) (v := .slice A8 inf.length c8) ((Below.grown HBW.out hg7 HBW.out.size (fun k hk => by cases hk; omega))) (by have := HLT.out.1; omega))
        have kq0 : w7.cell? ⟨w5.heap.size, 0, none⟩ = some (.int .i64 t1) := (blk_cell hp7 0).trans rfl
        have kf0 : w7.frozen? ⟨w5.heap.size, 0, none⟩ = false := blk_frozen hp7 0
        have kq1 : w7.cell? ⟨w5.heap.size, 1, none⟩ = some (.int .i64 (Go.bits .andNot .i64 t2 1)) := (blk_cell hp7 1).trans rfl
        have kf1 : w7.frozen? ⟨w5.heap.size, 1, none⟩ = false := blk_frozen hp7 1
        have kq2 : w7.cell? ⟨w5.heap.size, 2, none⟩ = some (.bool (Go.bits .and .i64 t2 1 == 1)) := (blk_cell hp7 2).trans rfl
        have kf2 : w7.frozen? ⟨w5.heap.size, 2, none⟩ = false := blk_frozen hp7 2
        have kq3 : w7.cell? ⟨w5.heap.size, 3, none⟩ = some (.int .i64 2) := (blk_cell hp7 3).trans rfl
        have kf3 : w7.frozen? ⟨w5.heap.size, 3, none⟩ = false := blk_frozen hp7 3
        have kq4 : w7.cell? ⟨w5.heap.size, 4, none⟩ = some (.int .i64 (kindTo cs (Go.bits .andNot .i64 t3 16) cs.length)) := (blk_cell hp7 4).trans rfl
        have kf4 : w7.frozen? ⟨w5.heap.size, 4, none⟩ = false := blk_frozen hp7 4
        have kq5 : w7.cell? ⟨w5.heap.size, 5, none⟩ = some (.int .i64 0) := (blk_cell hp7 5).trans rfl
        have kf5 : w7.frozen? ⟨w5.heap.size, 5, none⟩ = false := blk_frozen hp7 5
        have kq6 : w7.cell? ⟨w5.heap.size, 6, none⟩ = some (.int .i64 0) := (blk_cell hp7 6).trans rfl
        have kf6 : w7.frozen? ⟨w5.heap.size, 6, none⟩ = false := blk_frozen hp7 6
        have kq7 : w7.cell? ⟨w5.heap.size, 7, none⟩ = some (.bool (Go.bits .and .i64 t3 16 != 0)) := (blk_cell hp7 7).trans rfl
        have kf7 : w7.frozen? ⟨w5.heap.size, 7, none⟩ = false := blk_frozen hp7 7
        have kq8 : w7.cell? ⟨w5.heap.size, 8, none⟩ = some (.slice none 0 0) := (blk_cell hp7 8).trans rfl
        have kf8 : w7.frozen? ⟨w5.heap.size, 8, none⟩ = false := blk_frozen hp7 8
        clear hp7 hz7 hR7 hI7 hg7 hc8 hC8 hgp hgr hrp hsz
        rcases fin_cases H.out with ⟨hm, hr⟩ | ⟨hm, hr⟩
        · simp only [Prod.mk.injEq] at hr
          obtain ⟨rfl, rfl, rfl, rfl, rfl, rfl, rfl, rfl, rfl, rfl⟩ := hr
          have HM := Aside0.mk hm
          clear hm
          go_wp2_with fail
          refine (pdu_May.calls k _ _ _ _ _ _ _ _ A8 c8 inf true _ HC8.out HCL8.out HM.out).mono ?_
          rintro e w9 ⟨rfl, hB9⟩
          have HB9 := Aside0.mk hB9
          have hp9 := blk_below HP8.out hB9
          have hz9 := blk_below HRES8.out hB9
          clear hB9
          have pq0 : w9.cell? ⟨w5.heap.size, 0, none⟩ = some (.int .i64 t1) := (blk_cell hp9 0).trans rfl
          have pq1 : w9.cell? ⟨w5.heap.size, 1, none⟩ = some (.int .i64 (Go.bits .andNot .i64 t2 1)) := (blk_cell hp9 1).trans rfl
          have pq2 : w9.cell? ⟨w5.heap.size, 2, none⟩ = some (.bool (Go.bits .and .i64 t2 1 == 1)) := (blk_cell hp9 2).trans rfl
          have pq3 : w9.cell? ⟨w5.heap.size, 3, none⟩ = some (.int .i64 2) := (blk_cell hp9 3).trans rfl
          have pq4 : w9.cell? ⟨w5.heap.size, 4, none⟩ = some (.int .i64 (kindTo cs (Go.bits .andNot .i64 t3 16) cs.length)) := (blk_cell hp9 4).trans rfl
          have pq5 : w9.cell? ⟨w5.heap.size, 5, none⟩ = some (.int .i64 0) := (blk_cell hp9 5).trans rfl
          have pq6 : w9.cell? ⟨w5.heap.size, 6, none⟩ = some (.int .i64 0) := (blk_cell hp9 6).trans rfl
          have pq7 : w9.cell? ⟨w5.heap.size, 7, none⟩ = some (.bool (Go.bits .and .i64 t3 16 != 0)) := (blk_cell hp9 7).trans rfl
          have pq8 : w9.cell? ⟨w5.heap.size, 8, none⟩ = some (.slice A8 inf.length c8) := (blk_cell hp9 8).trans rfl
          have zq0 : w9.cell? ⟨w.heap.size, 0, none⟩ = some (.int .i64 0) := (blk_cell hz9 0).trans rfl
          have zf0 : w9.frozen? ⟨w.heap.size, 0, none⟩ = false := blk_frozen hz9 0
          have zq1 : w9.cell? ⟨w.heap.size, 1, none⟩ = some (.int .i64 0) := (blk_cell hz9 1).trans rfl
          have zf1 : w9.frozen? ⟨w.heap.size, 1, none⟩ = false := blk_frozen hz9 1
          have zq2 : w9.cell? ⟨w.heap.size, 2, none⟩ = some (.bool false) := (blk_cell hz9 2).trans rfl
          have zf2 : w9.frozen? ⟨w.heap.size, 2, none⟩ = false := blk_frozen hz9 2
          have zq3 : w9.cell? ⟨w.heap.size, 3, none⟩ = some (.int .i64 0) := (blk_cell hz9 3).trans rfl
          have zf3 : w9.frozen? ⟨w.heap.size, 3, none⟩ = false := blk_frozen hz9 3
          have zq4 : w9.cell? ⟨w.heap.size, 4, none⟩ = some (.int .i64 0) := (blk_cell hz9 4).trans rfl
          have zf4 : w9.frozen? ⟨w.heap.size, 4, none⟩ = false := blk_frozen hz9 4
          have zq5 : w9.cell? ⟨w.heap.size, 5, none⟩ = some (.int .i64 0) := (blk_cell hz9 5).trans rfl
          have zf5 : w9.frozen? ⟨w.heap.size, 5, none⟩ = false := blk_frozen hz9 5
          have zq6 : w9.cell? ⟨w.heap.size, 6, none⟩ = some (.int .i64 0) := (blk_cell hz9 6).trans rfl
          have zf6 : w9.frozen? ⟨w.heap.size, 6, none⟩ = false := blk_frozen hz9 6
          have zq7 : w9.cell? ⟨w.heap.size, 7, none⟩ = some (.bool false) := (blk_cell hz9 7).trans rfl
          have zf7 : w9.frozen? ⟨w.heap.size, 7, none⟩ = false := blk_frozen hz9 7
          have zq8 : w9.cell? ⟨w.heap.size, 8, none⟩ = some (.slice none 0 0) := (blk_cell hz9 8).trans rfl
          have zf8 : w9.frozen? ⟨w.heap.size, 8, none⟩ = false := blk_frozen hz9 8
          clear hp9 hz9
          go_wp2
          refine bodyPost_ret (v := .tuple #[.agg #[.int .i64 t1, .int .i64 (Go.bits .andNot .i64 t2 1), .bool (Go.bits .and .i64 t2 1 == 1), .int .i64 (2), .int .i64 (kindTo cs (Go.bits .andNot .i64 t3 16) cs.length), .int .i64 (0), .int .i64 (0), .bool ((Go.bits .and .i64 t3 16 != 0)), .slice A8 inf.length c8], .int .i64 0]) (by simp [results, Try.results29, go_sem, hu, zq0, zf0, zq1, zf1, zq2, zf2, zq3, zf3, zq4, zf4, zq5, zf5, zq6, zf6, zq7, zf7, zq8, zf8]) rfl ⟨_, rfl, ?_, ?_⟩
          · refine Kd.R_mono (ok := fun k => k ≠ w5.heap.size ∧ k ≠ w.heap.size) ?_ (fun _ _ => trivial)
            repeat (with_reducible refine Kd.R_far ?_ (fun k hk => hk.2) _)
            exact Kd.R_lower (Kd.R_below HR8.out HB9.out) HBW.out.size
          · repeat (with_reducible refine below_set ?_ (Nat.le_refl _))
            exact below_step HB8.out HB9.out
        · simp only [pduBad, Prod.mk.injEq] at hr
          obtain ⟨rfl, rfl, rfl, rfl, rfl, rfl, rfl, rfl, rfl, rfl⟩ := hr
          have HM := Aside0.mk hm
          clear hm
          go_wp2_with fail
          refine (pdu_May.calls k _ _ _ _ _ _ _ _ A8 c8 inf false _ HC8.out HCL8.out HM.out).mono ?_
          rintro e w9 ⟨rfl, hB9⟩
          have HB9 := Aside0.mk hB9
          have hp9 := blk_below HP8.out hB9
          have hz9 := blk_below HRES8.out hB9
          clear hB9
          have zq0 : w9.cell? ⟨w.heap.size, 0, none⟩ = some (.int .i64 0) := (blk_cell hz9 0).trans rfl
          have zf0 : w9.frozen? ⟨w.heap.size, 0, none⟩ = false := blk_frozen hz9 0
          have zq1 : w9.cell? ⟨w.heap.size, 1, none⟩ = some (.int .i64 0) := (blk_cell hz9 1).trans rfl
          have zf1 : w9.frozen? ⟨w.heap.size, 1, none⟩ = false := blk_frozen hz9 1
          have zq2 : w9.cell? ⟨w.heap.size, 2, none⟩ = some (.bool false) := (blk_cell hz9 2).trans rfl
          have zf2 : w9.frozen? ⟨w.heap.size, 2, none⟩ = false := blk_frozen hz9 2
          have zq3 : w9.cell? ⟨w.heap.size, 3, none⟩ = some (.int .i64 0) := (blk_cell hz9 3).trans rfl
          have zf3 : w9.frozen? ⟨w.heap.size, 3, none⟩ = false := blk_frozen hz9 3
          have zq4 : w9.cell? ⟨w.heap.size, 4, none⟩ = some (.int .i64 0) := (blk_cell hz9 4).trans rfl
          have zf4 : w9.frozen? ⟨w.heap.size, 4, none⟩ = false := blk_frozen hz9 4
          have zq5 : w9.cell? ⟨w.heap.size, 5, none⟩ = some (.int .i64 0) := (blk_cell hz9 5).trans rfl
          have zf5 : w9.frozen? ⟨w.heap.size, 5, none⟩ = false := blk_frozen hz9 5
          have zq6 : w9.cell? ⟨w.heap.size, 6, none⟩ = some (.int .i64 0) := (blk_cell hz9 6).trans rfl
          have zf6 : w9.frozen? ⟨w.heap.size, 6, none⟩ = false := blk_frozen hz9 6
          have zq7 : w9.cell? ⟨w.heap.size, 7, none⟩ = some (.bool false) := (blk_cell hz9 7).trans rfl
          have zf7 : w9.frozen? ⟨w.heap.size, 7, none⟩ = false := blk_frozen hz9 7
          have zq8 : w9.cell? ⟨w.heap.size, 8, none⟩ = some (.slice none 0 0) := (blk_cell hz9 8).trans rfl
          have zf8 : w9.frozen? ⟨w.heap.size, 8, none⟩ = false := blk_frozen hz9 8
          clear hp9 hz9
          go_wp2
          refine bodyPost_ret (v := .tuple #[.agg #[.int .i64 0, .int .i64 0, .bool false, .int .i64 0, .int .i64 0, .int .i64 0, .int .i64 0, .bool false, .slice none 0 0], .int .i64 4]) (by simp [results, Try.results29, go_sem, hu, zq0, zf0, zq1, zf1, zq2, zf2, zq3, zf3, zq4, zf4, zq5, zf5, zq6, zf6, zq7, zf7, zq8, zf8]) rfl ⟨_, rfl, Kd.R_nil _ _ _ _ _, ?_⟩
          repeat (with_reducible refine below_set ?_ (Nat.le_refl _))
          exact below_step HB8.out HB9.out
  · rw [if_neg c1] at h
    have c1' : (Go.bits .and .i64 t3 3 == 3) = false := beq_eq_false_iff_ne.mpr c1
    by_cases c2 : Go.bits .and .i64 t3 1 = 0
    · have c2' : (Go.bits .and .i64 t3 1 == 0) = true := beq_iff_eq.mpr c2
      by_cases hl : l0.length < 4
      · rw [if_pos hl] at h
        simp only [pduBad, Option.some.injEq, Prod.mk.injEq] at h
        obtain ⟨rfl, rfl, rfl, rfl, rfl, rfl, rfl, rfl, rfl, rfl⟩ := h
        have HS := Aside0.mk (show ((inf.length : Nat) : Int) < 1 by have := HD3.out; omega)
        clear hl c1 c2
        go_wp2_with fail
        refine (octet_Reader_Num.no w1 _ g inf false 1 (HI5.out.below (below_alloc (Below.refl _ _) _)) (below_alloc HB5.out _) (.inr (.inr (.inr HS.out)))).mono ?_
        rintro e w6 ⟨rfl, hI6, hg6⟩
        have hgp : w5.heap.size ≠ g := by have := HLT.out.2; omega
        have hgr : w.heap.size < g := by
          have h1 := HI5.out.ge
          have h2 := blk_lt (blk_below (blk_new w (.cells #[.int .i64 0, .int .i64 0, .bool false, .int .i64 0, .int .i64 0, .int .i64 0, .int .i64 0, .bool false, .slice none 0 0] 25)) HB.out)
          omega
        have hz6 := blk_grown (blk_alloc HBK.out (.cells #[.int .i64 t1, .int .i64 (Go.bits .andNot .i64 t2 1), .bool (Go.bits .and .i64 t2 1 == 1), .int .i64 0, .int .i64 (0), .int .i64 (t3 / 2), .int .i64 0, .bool false, .slice none 0 0] 25)) hg6 (fun e => by injection e with e; omega)
        have HB6 := Aside0.mk (Below.grown (below_alloc HBEL.out (.cells #[.int .i64 t1, .int .i64 (Go.bits .andNot .i64 t2 1), .bool (Go.bits .and .i64 t2 1 == 1), .int .i64 0, .int .i64 (0), .int .i64 (t3 / 2), .int .i64 0, .bool false, .slice none 0 0] 25)) hg6 (below_alloc HBEL.out (.cells #[.int .i64 t1, .int .i64 (Go.bits .andNot .i64 t2 1), .bool (Go.bits .and .i64 t2 1 == 1), .int .i64 0, .int .i64 (0), .int .i64 (t3 / 2), .int .i64 0, .bool false, .slice none 0 0] 25)).size (fun k hk => by cases hk; omega))
        have HI6 := Aside0.mk hI6
        have zq0 : w6.cell? ⟨w.heap.size, 0, none⟩ = some (.int .i64 0) := (blk_cell hz6 0).trans rfl
        have zf0 : w6.frozen? ⟨w.heap.size, 0, none⟩ = false := blk_frozen hz6 0
        have zq1 : w6.cell? ⟨w.heap.size, 1, none⟩ = some (.int .i64 0) := (blk_cell hz6 1).trans rfl
        have zf1 : w6.frozen? ⟨w.heap.size, 1, none⟩ = false := blk_frozen hz6 1
        have zq2 : w6.cell? ⟨w.heap.size, 2, none⟩ = some (.bool false) := (blk_cell hz6 2).trans rfl
        have zf2 : w6.frozen? ⟨w.heap.size, 2, none⟩ = false := blk_frozen hz6 2
        have zq3 : w6.cell? ⟨w.heap.size, 3, none⟩ = some (.int .i64 0) := (blk_cell hz6 3).trans rfl
        have zf3 : w6.frozen? ⟨w.heap.size, 3, none⟩ = false := blk_frozen hz6 3
        have zq4 : w6.cell? ⟨w.heap.size, 4, none⟩ = some (.int .i64 0) := (blk_cell hz6 4).trans rfl
        have zf4 : w6.frozen? ⟨w.heap.size, 4, none⟩ = false := blk_frozen hz6 4
        have zq5 : w6.cell? ⟨w.heap.size, 5, none⟩ = some (.int .i64 0) := (blk_cell hz6 5).trans rfl
        have zf5 : w6.frozen? ⟨w.heap.size, 5, none⟩ = false := blk_frozen hz6 5
        have zq6 : w6.cell? ⟨w.heap.size, 6, none⟩ = some (.int .i64 0) := (blk_cell hz6 6).trans rfl
        have zf6 : w6.frozen? ⟨w.heap.size, 6, none⟩ = false := blk_frozen hz6 6
        have zq7 : w6.cell? ⟨w.heap.size, 7, none⟩ = some (.bool false) := (blk_cell hz6 7).trans rfl
        have zf7 : w6.frozen? ⟨w.heap.size, 7, none⟩ = false := blk_frozen hz6 7
        have zq8 : w6.cell? ⟨w.heap.size, 8, none⟩ = some (.slice none 0 0) := (blk_cell hz6 8).trans rfl
        have zf8 : w6.frozen? ⟨w.heap.size, 8, none⟩ = false := blk_frozen hz6 8
        clear hz6 hg6 hI6 hgp hgr
        go_wp2_with (go_at_call 88; refine (octet_Reader_Fail.rd w1 _ g inf true HI6.out).mono ?_; rintro e w6' ⟨rfl, rfl⟩)
        refine bodyPost_ret (v := .tuple #[.agg #[.int .i64 0, .int .i64 0, .bool false, .int .i64 0, .int .i64 0, .int .i64 0, .int .i64 0, .bool false, .slice none 0 0], .int .i64 2]) (by simp [results, Try.results29, go_sem, hu, zq0, zf0, zq1, zf1, zq2, zf2, zq3, zf3, zq4, zf4, zq5, zf5, zq6, zf6, zq7, zf7, zq8, zf8]) rfl ⟨_, rfl, Kd.R_nil _ _ _ _ _, ?_⟩
        repeat (with_reducible refine below_set ?_ (Nat.le_refl _))
        exact HB6.out
      · rw [if_neg hl] at h
        obtain ⟨t4, e4, h⟩ := Option.bind_eq_some_iff.mp h
        rw [HINF.out] at e4
        rw [if_pos c2] at h
        obtain ⟨inf2, hinf2⟩ : ∃ x, l0.drop 4 = x := ⟨_, rfl⟩
        rw [hinf2] at h
        have hdd : inf.drop 1 = inf2 := by rw [← hinf2, ← HINF.out, List.drop_drop]
        have HDD := Aside0.mk hdd
        have E4 := Aside0.mk e4
        have H := Aside0.mk h
        have HL2 := Aside0.mk (show inf2.length < 140737488355328 by have := HL.out; rw [← hinf2, List.length_drop]; omega)
        have HS := Aside0.mk (show (1 : Int) ≤ (inf.length : Nat) ∧ inf.length < 140737488355328 by have := HD3.out; have := HL.out; omega)
        clear h e4 hinf2 hdd hl c1 c2
        go_wp2_with fail
        refine (octet_Reader_Num.yes k w1 _ g inf 1 t4 (HI5.out.below (below_alloc (Below.refl _ _) _)) (below_alloc HB5.out _) (by omega) (by omega) HS.out.1 HS.out.2 E4.out).mono ?_
        rintro e w6 ⟨rfl, hI6, hg6⟩
        have hI6 : IsRd w1 w6 g (inf.drop 1) false := hI6
        rw [HDD.out] at hI6
        have HI6 := Aside0.mk hI6
        have HG6 := Aside0.mk hg6
        have HB61 := Aside0.mk (below_rd (below_alloc HB5.out (.cells #[.int .i64 t1, .int .i64 (Go.bits .andNot .i64 t2 1), .bool (Go.bits .and .i64 t2 1 == 1), .int .i64 0, .int .i64 (0), .int .i64 (t3 / 2), .int .i64 0, .bool false, .slice none 0 0] 25)) hg6 HG.out)
        clear hI6 hg6
        go_wp2_with fail
        refine (octet_Reader_Fail.rd w1 _ g inf2 false HI6.out).mono ?_
        rintro e w6' ⟨rfl, rfl⟩
        go_wp2_with fail
        refine (octet_Reader_Rest.yes w1 _ g inf2 HI6.out HB61.out HL2.out).mono ?_
        rintro e w7 ⟨v7, rfl, hR7, hI7, hg7⟩
        obtain ⟨A8, c8, rfl, hc8, hC8⟩ := Kd.R_reads hR7
        have hgp : w5.heap.size ≠ g := by have := HLT.out.2; omega
        have hgr : w.heap.size < g := by
          have h1 := HI5.out.ge
          have h2 := blk_lt (blk_below (blk_new w (.cells #[.int .i64 0, .int .i64 0, .bool false, .int .i64 0, .int .i64 0, .int .i64 0, .int .i64 0, .bool false, .slice none 0 0] 25)) HB.out)
          omega
        have hrp : w.heap.size ≠ w5.heap.size := by have := HLT.out.1; omega
        have hp6 := blk_grown (blk_new w5 (.cells #[.int .i64 t1, .int .i64 (Go.bits .andNot .i64 t2 1), .bool (Go.bits .and .i64 t2 1 == 1), .int .i64 0, .int .i64 (0), .int .i64 (t3 / 2), .int .i64 0, .bool false, .slice none 0 0] 25)) HG6.out (fun e => hgp (by injection e))
        have hz6 := blk_grown (blk_alloc HBK.out (.cells #[.int .i64 t1, .int .i64 (Go.bits .andNot .i64 t2 1), .bool (Go.bits .and .i64 t2 1 == 1), .int .i64 0, .int .i64 (0), .int .i64 (t3 / 2), .int .i64 0, .bool false, .slice none 0 0] 25)) HG6.out (fun e => by injection e with e; omega)
        have hp7 := blk_grown hp6 hg7 (fun e => hgp (by injection e))
        have hz7 := blk_grown hz6 hg7 (fun e => by injection e with e; omega)
        have hsz : w5.heap.size < w6.heap.size ∧ w.heap.size < w6.heap.size := ⟨blk_lt hp6, blk_lt hz6⟩
        have HR8 := Aside0.mk (Kd.R_far (Kd.R_far (Kd.R_far (Kd.R_mono (Kd.R_bound hR7) (ok' := fun k => k ≠ w5.heap.size ∧ k ≠ w.heap.size) (fun k hk => by have := hk.2.1; omega)) (p := ⟨w5.heap.size, 6, none⟩) (fun k hk => hk.1) (.int .i64 (t4 / 2))) (p := ⟨w5.heap.size, 7, none⟩) (fun k hk => hk.1) (.bool (Go.bits .and .i64 t4 1 == 1))) (p := ⟨w5.heap.size, 8, none⟩) (fun k hk => hk.1) (.slice A8 inf2.length c8))
        have HP8 := Aside0.mk (blk_put (blk_put (blk_put hp7 6 (.int .i64 (t4 / 2)) rfl) 7 (.bool (Go.bits .and .i64 t4 1 == 1)) rfl) 8 (.slice A8 inf2.length c8) rfl)
        have HRES8 := Aside0.mk (blk_far (blk_far (blk_far hz7 (p := ⟨w5.heap.size, 6, none⟩) hrp (.int .i64 (t4 / 2))) (p := ⟨w5.heap.size, 7, none⟩) hrp (.bool (Go.bits .and .i64 t4 1 == 1))) (p := ⟨w5.heap.size, 8, none⟩) hrp (.slice A8 inf2.length c8))
        have HC8 := Aside0.mk (Kd.R_reads' HR8.out).2.2
        have HCL8 := Aside0.mk hc8
        have hb6 : Below w.heap.size w w6 := Below.grown (below_alloc HBEL.out (.cells #[.int .i64 t1, .int .i64 (Go.bits .andNot .i64 t2 1), .bool (Go.bits .and .i64 t2 1 == 1), .int .i64 0, .int .i64 (0), .int .i64 (t3 / 2), .int .i64 0, .bool false, .slice none 0 0] 25)) HG6.out (below_alloc HBEL.out (.cells #[.int .i64 t1, .int .i64 (Go.bits .andNot .i64 t2 1), .bool (Go.bits .and .i64 t2 1 == 1), .int .i64 0, .int .i64 (0), .int .i64 (t3 / 2), .int .i64 0, .bool false, .slice none 0 0] 25)).size (fun k hk => by cases hk; omega)
        have HBW := Aside0.mk hb6
        have hw5 : w.heap.size ≤ w5.heap.size := by have := HLT.out.1; omega
        have HB8 := Aside0.mk (below_set (g := w5.heap.size) (j := 8) (v := .slice A8 inf2.length c8) (below_set (g := w5.heap.size) (j := 7) (v := .bool (Go.bits .and .i64 t4 1 == 1)) (below_set (g := w5.heap.size) (j := 6) (v := .int .i64 (t4 / 2)) (Below.grown hb6 hg7 hb6.size (fun k hk => by cases hk; omega)) hw5) hw5) hw5)
        have kq0 : w7.cell? ⟨w5.heap.size, 0, none⟩ = some (.int .i64 t1) := (blk_cell hp7 0).trans rfl
        have kf0 : w7.frozen? ⟨w5.heap.size, 0, none⟩ = false := blk_frozen hp7 0
        have kq1 : w7.cell? ⟨w5.heap.size, 1, none⟩ = some (.int .i64 (Go.bits .andNot .i64 t2 1)) := (blk_cell hp7 1).trans rfl
        have kf1 : w7.frozen? ⟨w5.heap.size, 1, none⟩ = false := blk_frozen hp7 1
        have kq2 : w7.cell? ⟨w5.heap.size, 2, none⟩ = some (.bool (Go.bits .and .i64 t2 1 == 1)) := (blk_cell hp7 2).trans rfl
        have kf2 : w7.frozen? ⟨w5.heap.size, 2, none⟩ = false := blk_frozen hp7 2
        have kq3 : w7.cell? ⟨w5.heap.size, 3, none⟩ = some (.int .i64 0) := (blk_cell hp7 3).trans rfl
        have kf3 : w7.frozen? ⟨w5.heap.size, 3, none⟩ = false := blk_frozen hp7 3
        have kq4 : w7.cell? ⟨w5.heap.size, 4, none⟩ = some (.int .i64 (0)) := (blk_cell hp7 4).trans rfl
        have kf4 : w7.frozen? ⟨w5.heap.size, 4, none⟩ = false := blk_frozen hp7 4
        have kq5 : w7.cell? ⟨w5.heap.size, 5, none⟩ = some (.int .i64 (t3 / 2)) := (blk_cell hp7 5).trans rfl
        have kf5 : w7.frozen? ⟨w5.heap.size, 5, none⟩ = false := blk_frozen hp7 5
        have kq6 : w7.cell? ⟨w5.heap.size, 6, none⟩ = some (.int .i64 0) := (blk_cell hp7 6).trans rfl
        have kf6 : w7.frozen? ⟨w5.heap.size, 6, none⟩ = false := blk_frozen hp7 6
        have kq7 : w7.cell? ⟨w5.heap.size, 7, none⟩ = some (.bool false) := (blk_cell hp7 7).trans rfl
        have kf7 : w7.frozen? ⟨w5.heap.size, 7, none⟩ = false := blk_frozen hp7 7
        have kq8 : w7.cell? ⟨w5.heap.size, 8, none⟩ = some (.slice none 0 0) := (blk_cell hp7 8).trans rfl
        have kf8 : w7.frozen? ⟨w5.heap.size, 8, none⟩ = false := blk_frozen hp7 8
        clear hp6 hz6 hp7 hz7 hR7 hI7 hg7 hc8 hC8 hgp hgr hrp hsz hb6 hw5
        rcases fin_cases H.out with ⟨hm, hr⟩ | ⟨hm, hr⟩
        · simp only [Prod.mk.injEq] at hr
          obtain ⟨rfl, rfl, rfl, rfl, rfl, rfl, rfl, rfl, rfl, rfl⟩ := hr
          have HM := Aside0.mk hm
          clear hm
          go_wp2_with fail
          refine (pdu_May.calls k _ _ _ _ _ _ _ _ A8 c8 inf2 true _ HC8.out HCL8.out HM.out).mono ?_
          rintro e w9 ⟨rfl, hB9⟩
          have HB9 := Aside0.mk hB9
          have hp9 := blk_below HP8.out hB9
          have hz9 := blk_below HRES8.out hB9
          clear hB9
          have pq0 : w9.cell? ⟨w5.heap.size, 0, none⟩ = some (.int .i64 t1) := (blk_cell hp9 0).trans rfl
          have pq1 : w9.cell? ⟨w5.heap.size, 1, none⟩ = some (.int .i64 (Go.bits .andNot .i64 t2 1)) := (blk_cell hp9 1).trans rfl
          have pq2 : w9.cell? ⟨w5.heap.size, 2, none⟩ = some (.bool (Go.bits .and .i64 t2 1 == 1)) := (blk_cell hp9 2).trans rfl
          have pq3 : w9.cell? ⟨w5.heap.size, 3, none⟩ = some (.int .i64 (0)) := (blk_cell hp9 3).trans rfl
          have pq4 : w9.cell? ⟨w5.heap.size, 4, none⟩ = some (.int .i64 (0)) := (blk_cell hp9 4).trans rfl
          have pq5 : w9.cell? ⟨w5.heap.size, 5, none⟩ = some (.int .i64 (t3 / 2)) := (blk_cell hp9 5).trans rfl
          have pq6 : w9.cell? ⟨w5.heap.size, 6, none⟩ = some (.int .i64 (t4 / 2)) := (blk_cell hp9 6).trans rfl
          have pq7 : w9.cell? ⟨w5.heap.size, 7, none⟩ = some (.bool (Go.bits .and .i64 t4 1 == 1)) := (blk_cell hp9 7).trans rfl
          have pq8 : w9.cell? ⟨w5.heap.size, 8, none⟩ = some (.slice A8 inf2.length c8) := (blk_cell hp9 8).trans rfl
          have zq0 : w9.cell? ⟨w.heap.size, 0, none⟩ = some (.int .i64 0) := (blk_cell hz9 0).trans rfl
          have zf0 : w9.frozen? ⟨w.heap.size, 0, none⟩ = false := blk_frozen hz9 0
          have zq1 : w9.cell? ⟨w.heap.size, 1, none⟩ = some (.int .i64 0) := (blk_cell hz9 1).trans rfl
          have zf1 : w9.frozen? ⟨w.heap.size, 1, none⟩ = false := blk_frozen hz9 1
          have zq2 : w9.cell? ⟨w.heap.size, 2, none⟩ = some (.bool false) := (blk_cell hz9 2).trans rfl
          have zf2 : w9.frozen? ⟨w.heap.size, 2, none⟩ = false := blk_frozen hz9 2
          have zq3 : w9.cell? ⟨w.heap.size, 3, none⟩ = some (.int .i64 0) := (blk_cell hz9 3).trans rfl
          have zf3 : w9.frozen? ⟨w.heap.size, 3, none⟩ = false := blk_frozen hz9 3
          have zq4 : w9.cell? ⟨w.heap.size, 4, none⟩ = some (.int .i64 0) := (blk_cell hz9 4).trans rfl
          have zf4 : w9.frozen? ⟨w.heap.size, 4, none⟩ = false := blk_frozen hz9 4
          have zq5 : w9.cell? ⟨w.heap.size, 5, none⟩ = some (.int .i64 0) := (blk_cell hz9 5).trans rfl
          have zf5 : w9.frozen? ⟨w.heap.size, 5, none⟩ = false := blk_frozen hz9 5
          have zq6 : w9.cell? ⟨w.heap.size, 6, none⟩ = some (.int .i64 0) := (blk_cell hz9 6).trans rfl
          have zf6 : w9.frozen? ⟨w.heap.size, 6, none⟩ = false := blk_frozen hz9 6
          have zq7 : w9.cell? ⟨w.heap.size, 7, none⟩ = some (.bool false) := (blk_cell hz9 7).trans rfl
          have zf7 : w9.frozen? ⟨w.heap.size, 7, none⟩ = false := blk_frozen hz9 7
          have zq8 : w9.cell? ⟨w.heap.size, 8, none⟩ = some (.slice none 0 0) := (blk_cell hz9 8).trans rfl
          have zf8 : w9.frozen? ⟨w.heap.size, 8, none⟩ = false := blk_frozen hz9 8
          clear hp9 hz9
          go_wp2
          refine bodyPost_ret (v := .tuple #[.agg #[.int .i64 t1, .int .i64 (Go.bits .andNot .i64 t2 1), .bool (Go.bits .and .i64 t2 1 == 1), .int .i64 (0), .int .i64 (0), .int .i64 (t3 / 2), .int .i64 (t4 / 2), .bool ((Go.bits .and .i64 t4 1 == 1)), .slice A8 inf2.length c8], .int .i64 0]) (by simp [results, Try.results29, go_sem, hu, zq0, zf0, zq1, zf1, zq2, zf2, zq3, zf3, zq4, zf4, zq5, zf5, zq6, zf6, zq7, zf7, zq8, zf8]) rfl ⟨_, rfl, ?_, ?_⟩
          · refine Kd.R_mono (ok := fun k => k ≠ w5.heap.size ∧ k ≠ w.heap.size) ?_ (fun _ _ => trivial)
            repeat (with_reducible refine Kd.R_far ?_ (fun k hk => hk.2) _)
            exact Kd.R_lower (Kd.R_below HR8.out HB9.out) HBW.out.size
          · repeat (with_reducible refine below_set ?_ (Nat.le_refl _))
            exact below_step HB8.out HB9.out
        · simp only [pduBad, Prod.mk.injEq] at hr
          obtain ⟨rfl, rfl, rfl, rfl, rfl, rfl, rfl, rfl, rfl, rfl⟩ := hr
          have HM := Aside0.mk hm
          clear hm
          go_wp2_with fail
          refine (pdu_May.calls k _ _ _ _ _ _ _ _ A8 c8 inf2 false _ HC8.out HCL8.out HM.out).mono ?_
          rintro e w9 ⟨rfl, hB9⟩
          have HB9 := Aside0.mk hB9
          have hp9 := blk_below HP8.out hB9
          have hz9 := blk_below HRES8.out hB9
          clear hB9
          have zq0 : w9.cell? ⟨w.heap.size, 0, none⟩ = some (.int .i64 0) := (blk_cell hz9 0).trans rfl
          have zf0 : w9.frozen? ⟨w.heap.size, 0, none⟩ = false := blk_frozen hz9 0
          have zq1 : w9.cell? ⟨w.heap.size, 1, none⟩ = some (.int .i64 0) := (blk_cell hz9 1).trans rfl
          have zf1 : w9.frozen? ⟨w.heap.size, 1, none⟩ = false := blk_frozen hz9 1
          have zq2 : w9.cell? ⟨w.heap.size, 2, none⟩ = some (.bool false) := (blk_cell hz9 2).trans rfl
          have zf2 : w9.frozen? ⟨w.heap.size, 2, none⟩ = false := blk_frozen hz9 2
          have zq3 : w9.cell? ⟨w.heap.size, 3, none⟩ = some (.int .i64 0) := (blk_cell hz9 3).trans rfl
          have zf3 : w9.frozen? ⟨w.heap.size, 3, none⟩ = false := blk_frozen hz9 3
          have zq4 : w9.cell? ⟨w.heap.size, 4, none⟩ = some (.int .i64 0) := (blk_cell hz9 4).trans rfl
          have zf4 : w9.frozen? ⟨w.heap.size, 4, none⟩ = false := blk_frozen hz9 4
          have zq5 : w9.cell? ⟨w.heap.size, 5, none⟩ = some (.int .i64 0) := (blk_cell hz9 5).trans rfl
          have zf5 : w9.frozen? ⟨w.heap.size, 5, none⟩ = false := blk_frozen hz9 5
          have zq6 : w9.cell? ⟨w.heap.size, 6, none⟩ = some (.int .i64 0) := (blk_cell hz9 6).trans rfl
          have zf6 : w9.frozen? ⟨w.heap.size, 6, none⟩ = false := blk_frozen hz9 6
          have zq7 : w9.cell? ⟨w.heap.size, 7, none⟩ = some (.bool false) := (blk_cell hz9 7).trans rfl
          have zf7 : w9.frozen? ⟨w.heap.size, 7, none⟩ = false := blk_frozen hz9 7
          have zq8 : w9.cell? ⟨w.heap.size, 8, none⟩ = some (.slice none 0 0) := (blk_cell hz9 8).trans rfl
          have zf8 : w9.frozen? ⟨w.heap.size, 8, none⟩ = false := blk_frozen hz9 8
          clear hp9 hz9
          go_wp2
          refine bodyPost_ret (v := .tuple #[.agg #[.int .i64 0, .int .i64 0, .bool false, .int .i64 0, .int .i64 0, .int .i64 0, .int .i64 0, .bool false, .slice none 0 0], .int .i64 4]) (by simp [results, Try.results29, go_sem, hu, zq0, zf0, zq1, zf1, zq2, zf2, zq3, zf3, zq4, zf4, zq5, zf5, zq6, zf6, zq7, zf7, zq8, zf8]) rfl ⟨_, rfl, Kd.R_nil _ _ _ _ _, ?_⟩
          repeat (with_reducible refine below_set ?_ (Nat.le_refl _))
          exact below_step HB8.out HB9.out
    · have c2' : (Go.bits .and .i64 t3 1 == 0) = false := beq_eq_false_iff_ne.mpr c2
      by_cases hl : l0.length < 4
      · rw [if_pos hl] at h
        simp only [pduBad, Option.some.injEq, Prod.mk.injEq] at h
        obtain ⟨rfl, rfl, rfl, rfl, rfl, rfl, rfl, rfl, rfl, rfl⟩ := h
        have HS := Aside0.mk (show ((inf.length : Nat) : Int) < 1 by have := HD3.out; omega)
        clear hl c1 c2
        go_wp2_with fail
        refine (octet_Reader_Num.no w1 _ g inf false 1 (HI5.out.below (below_alloc (Below.refl _ _) _)) (below_alloc HB5.out _) (.inr (.inr (.inr HS.out)))).mono ?_
        rintro e w6 ⟨rfl, hI6, hg6⟩
        have hgp : w5.heap.size ≠ g := by have := HLT.out.2; omega
        have hgr : w.heap.size < g := by
          have h1 := HI5.out.ge
          have h2 := blk_lt (blk_below (blk_new w (.cells #[.int .i64 0, .int .i64 0, .bool false, .int .i64 0, .int .i64 0, .int .i64 0, .int .i64 0, .bool false, .slice none 0 0] 25)) HB.out)
          omega
        have hz6 := blk_grown (blk_alloc HBK.out (.cells #[.int .i64 t1, .int .i64 (Go.bits .andNot .i64 t2 1), .bool (Go.bits .and .i64 t2 1 == 1), .int .i64 (1), .int .i64 (t3 / 4), .int .i64 (0), .int .i64 0, .bool false, .slice none 0 0] 25)) hg6 (fun e => by injection e with e; omega)
        have HB6 := Aside0.mk (Below.grown (below_alloc HBEL.out (.cells #[.int .i64 t1, .int .i64 (Go.bits .andNot .i64 t2 1), .bool (Go.bits .and .i64 t2 1 == 1), .int .i64 (1), .int .i64 (t3 / 4), .int .i64 (0), .int .i64 0, .bool false, .slice none 0 0] 25)) hg6 (below_alloc HBEL.out (.cells #[.int .i64 t1, .int .i64 (Go.bits .andNot .i64 t2 1), .bool (Go.bits .and .i64 t2 1 == 1), .int .i64 (1), .int .i64 (t3 / 4), .int .i64 (0), .int .i64 0, .bool false, .slice none 0 0] 25)).size (fun k hk => by cases hk; omega))
        have HI6 := Aside0.mk hI6
        have zq0 : w6.cell? ⟨w.heap.size, 0, none⟩ = some (.int .i64 0) := (blk_cell hz6 0).trans rfl
        have zf0 : w6.frozen? ⟨w.heap.size, 0, none⟩ = false := blk_frozen hz6 0
        have zq1 : w6.cell? ⟨w.heap.size, 1, none⟩ = some (.int .i64 0) := (blk_cell hz6 1).trans rfl
        have zf1 : w6.frozen? ⟨w.heap.size, 1, none⟩ = false := blk_frozen hz6 1
        have zq2 : w6.cell? ⟨w.heap.size, 2, none⟩ = some (.bool false) := (blk_cell hz6 2).trans rfl
        have zf2 : w6.frozen? ⟨w.heap.size, 2, none⟩ = false := blk_frozen hz6 2
        have zq3 : w6.cell? ⟨w.heap.size, 3, none⟩ = some (.int .i64 0) := (blk_cell hz6 3).trans rfl
        have zf3 : w6.frozen? ⟨w.heap.size, 3, none⟩ = false := blk_frozen hz6 3
        have zq4 : w6.cell? ⟨w.heap.size, 4, none⟩ = some (.int .i64 0) := (blk_cell hz6 4).trans rfl
        have zf4 : w6.frozen? ⟨w.heap.size, 4, none⟩ = false := blk_frozen hz6 4
        have zq5 : w6.cell? ⟨w.heap.size, 5, none⟩ = some (.int .i64 0) := (blk_cell hz6 5).trans rfl
        have zf5 : w6.frozen? ⟨w.heap.size, 5, none⟩ = false := blk_frozen hz6 5
        have zq6 : w6.cell? ⟨w.heap.size, 6, none⟩ = some (.int .i64 0) := (blk_cell hz6 6).trans rfl
        have zf6 : w6.frozen? ⟨w.heap.size, 6, none⟩ = false := blk_frozen hz6 6
        have zq7 : w6.cell? ⟨w.heap.size, 7, none⟩ = some (.bool false) := (blk_cell hz6 7).trans rfl
        have zf7 : w6.frozen? ⟨w.heap.size, 7, none⟩ = false := blk_frozen hz6 7
        have zq8 : w6.cell? ⟨w.heap.size, 8, none⟩ = some (.slice none 0 0) := (blk_cell hz6 8).trans rfl
        have zf8 : w6.frozen? ⟨w.heap.size, 8, none⟩ = false := blk_frozen hz6 8
        clear hz6 hg6 hI6 hgp hgr
        go_wp2_with (go_at_call 88; refine (octet_Reader_Fail.rd w1 _ g inf true HI6.out).mono ?_; rintro e w6' ⟨rfl, rfl⟩)
        refine bodyPost_ret (v := .tuple #[.agg #[.int .i64 0, .int .i64 0, .bool false, .int .i64 0, .int .i64 0, .int .i64 0, .int .i64 0, .bool false, .slice none 0 0], .int .i64 2]) (by simp [results, Try.results29, go_sem, hu, zq0, zf0, zq1, zf1, zq2, zf2, zq3, zf3, zq4, zf4, zq5, zf5, zq6, zf6, zq7, zf7, zq8, zf8]) rfl ⟨_, rfl, Kd.R_nil _ _ _ _ _, ?_⟩
        repeat (with_reducible refine below_set ?_ (Nat.le_refl _))
        exact HB6.out
      · rw [if_neg hl] at h
        obtain ⟨t4, e4, h⟩ := Option.bind_eq_some_iff.mp h
        rw [HINF.out] at e4
        rw [if_neg c2] at h
        obtain ⟨inf2, hinf2⟩ : ∃ x, l0.drop 4 = x := ⟨_, rfl⟩
        rw [hinf2] at h
        have hdd : inf.drop 1 = inf2 := by rw [← hinf2, ← HINF.out, List.drop_drop]
        have HDD := Aside0.mk hdd
        have E4 := Aside0.mk e4
        have H := Aside0.mk h
        have HL2 := Aside0.mk (show inf2.length < 140737488355328 by have := HL.out; rw [← hinf2, List.length_drop]; omega)
        have HS := Aside0.mk (show (1 : Int) ≤ (inf.length : Nat) ∧ inf.length < 140737488355328 by have := HD3.out; have := HL.out; omega)
        clear h e4 hinf2 hdd hl c1 c2
        go_wp2_with fail
        refine (octet_Reader_Num.yes k w1 _ g inf 1 t4 (HI5.out.below (below_alloc (Below.refl _ _) _)) (below_alloc HB5.out _) (by omega) (by omega) HS.out.1 HS.out.2 E4.out).mono ?_
        rintro e w6 ⟨rfl, hI6, hg6⟩
        have hI6 : IsRd w1 w6 g (inf.drop 1) false := hI6
        rw [HDD.out] at hI6
        have HI6 := Aside0.mk hI6
        have HG6 := Aside0.mk hg6
        have HB61 := Aside0.mk (below_rd (below_alloc HB5.out (.cells #[.int .i64 t1, .int .i64 (Go.bits .andNot .i64 t2 1), .bool (Go.bits .and .i64 t2 1 == 1), .int .i64 (1), .int .i64 (t3 / 4), .int .i64 (0), .int .i64 0, .bool false, .slice none 0 0] 25)) hg6 HG.out)
        clear hI6 hg6
        go_wp2_with fail
        refine (octet_Reader_Fail.rd w1 _ g inf2 false HI6.out).mono ?_
        rintro e w6' ⟨rfl, rfl⟩
        go_wp2_with fail
        refine (octet_Reader_Rest.yes w1 _ g inf2 HI6.out HB61.out HL2.out).mono ?_
        rintro e w7 ⟨v7, rfl, hR7, hI7, hg7⟩
        obtain ⟨A8, c8, rfl, hc8, hC8⟩ := Kd.R_reads hR7
        have hgp : w5.heap.size ≠ g := by have := HLT.out.2; omega
        have hgr : w.heap.size < g := by
          have h1 := HI5.out.ge
          have h2 := blk_lt (blk_below (blk_new w (.cells #[.int .i64 0, .int .i64 0, .bool false, .int .i64 0, .int .i64 0, .int .i64 0, .int .i64 0, .bool false, .slice none 0 0] 25)) HB.out)
          omega
        have hrp : w.heap.size ≠ w5.heap.size := by have := HLT.out.1; omega
        have hp6 := blk_grown (blk_new w5 (.cells #[.int .i64 t1, .int .i64 (Go.bits .andNot .i64 t2 1), .bool (Go.bits .and .i64 t2 1 == 1), .int .i64 (1), .int .i64 (t3 / 4), .int .i64 (0), .int .i64 0, .bool false, .slice none 0 0] 25)) HG6.out (fun e => hgp (by injection e))
        have hz6 := blk_grown (blk_alloc HBK.out (.cells #[.int .i64 t1, .int .i64 (Go.bits .andNot .i64 t2 1), .bool (Go.bits .and .i64 t2 1 == 1), .int .i64 (1), .int .i64 (t3 / 4), .int .i64 (0), .int .i64 0, .bool false, .slice none 0 0] 25)) HG6.out (fun e => by injection e with e; omega)
        have hp7 := blk_grown hp6 hg7 (fun e => hgp (by injection e))
        have hz7 := blk_grown hz6 hg7 (fun e => by injection e with e; omega)
        have hsz : w5.heap.size < w6.heap.size ∧ w.heap.size < w6.heap.size := ⟨blk_lt hp6, blk_lt hz6⟩
        have HR8 := Aside0.mk (Kd.R_far (Kd.R_far (Kd.R_far (Kd.R_mono (Kd.R_bound hR7) (ok' := fun k => k ≠ w5.heap.size ∧ k ≠ w.heap.size) (fun k hk => by have := hk.2.1; omega)) (p := ⟨w5.heap.size, 6, none⟩) (fun k hk => hk.1) (.int .i64 (t4 / 2))) (p := ⟨w5.heap.size, 7, none⟩) (fun k hk => hk.1) (.bool (Go.bits .and .i64 t4 1 == 1))) (p := ⟨w5.heap.size, 8, none⟩) (fun k hk => hk.1) (.slice A8 inf2.length c8))
        have HP8 := Aside0.mk (blk_put (blk_put (blk_put hp7 6 (.int .i64 (t4 / 2)) rfl) 7 (.bool (Go.bits .and .i64 t4 1 == 1)) rfl) 8 (.slice A8 inf2.length c8) rfl)
        have HRES8 := Aside0.mk (blk_far (blk_far (blk_far hz7 (p := ⟨w5.heap.size, 6, none⟩) hrp (.int .i64 (t4 / 2))) (p := ⟨w5.heap.size, 7, none⟩) hrp (.bool (Go.bits .and .i64 t4 1 == 1))) (p := ⟨w5.heap.size, 8, none⟩) hrp (.slice A8 inf2.length c8))
        have HC8 := Aside0.mk (Kd.R_reads' HR8.out).2.2
        have HCL8 := Aside0.mk hc8
        have hb6 : Below w.heap.size w w6 := Below.grown (below_alloc HBEL.out (.cells #[.int .i64 t1, .int .i64 (Go.bits .andNot .i64 t2 1), .bool (Go.bits .and .i64 t2 1 == 1), .int .i64 (1), .int .i64 (t3 / 4), .int .i64 (0), .int .i64 0, .bool false, .slice none 0 0] 25)) HG6.out (below_alloc HBEL.out (.cells #[.int .i64 t1, .int .i64 (Go.bits .andNot .i64 t2 1), .bool (Go.bits .and .i64 t2 1 == 1), .int .i64 (1), .int .i64 (t3 / 4), .int .i64 (0), .int .i64 0, .bool false, .slice none 0 0] 25)).size (fun k hk => by cases hk; omega)
        have HBW := Aside0.mk hb6
        have hw5 : w.heap.size ≤ w5.heap.size := by have := HLT.out.1; omega
        have HB8 := Aside0.mk (below_set (g := w5.heap.size) (j := 8) (v := .slice A8 inf2.length c8) (below_set (g := w5.heap.size) (j := 7) (v := .bool (Go.bits .and .i64 t4 1 == 1)) (below_set (g := w5.heap.size) (j := 6) (v := .int .i64 (t4 / 2)) (Below.grown hb6 hg7 hb6.size (fun k hk => by cases hk; omega)) hw5) hw5) hw5)
        have kq0 : w7.cell? ⟨w5.heap.size, 0, none⟩ = some (.int .i64 t1) := (blk_cell hp7 0).trans rfl
        have kf0 : w7.frozen? ⟨w5.heap.size, 0, none⟩ = false := blk_frozen hp7 0
        have kq1 : w7.cell? ⟨w5.heap.size, 1, none⟩ = some (.int .i64 (Go.bits .andNot .i64 t2 1)) := (blk_cell hp7 1).trans rfl
        have kf1 : w7.frozen? ⟨w5.heap.size, 1, none⟩ = false := blk_frozen hp7 1
        have kq2 : w7.cell? ⟨w5.heap.size, 2, none⟩ = some (.bool (Go.bits .and .i64 t2 1 == 1)) := (blk_cell hp7 2).trans rfl
        have kf2 : w7.frozen? ⟨w5.heap.size, 2, none⟩ = false := blk_frozen hp7 2
        have kq3 : w7.cell? ⟨w5.heap.size, 3, none⟩ = some (.int .i64 (1)) := (blk_cell hp7 3).trans rfl
        have kf3 : w7.frozen? ⟨w5.heap.size, 3, none⟩ = false := blk_frozen hp7 3
        have kq4 : w7.cell? ⟨w5.heap.size, 4, none⟩ = some (.int .i64 (t3 / 4)) := (blk_cell hp7 4).trans rfl
        have kf4 : w7.frozen? ⟨w5.heap.size, 4, none⟩ = false := blk_frozen hp7 4
        have kq5 : w7.cell? ⟨w5.heap.size, 5, none⟩ = some (.int .i64 (0)) := (blk_cell hp7 5).trans rfl
        have kf5 : w7.frozen? ⟨w5.heap.size, 5, none⟩ = false := blk_frozen hp7 5
        have kq6 : w7.cell? ⟨w5.heap.size, 6, none⟩ = some (.int .i64 0) := (blk_cell hp7 6).trans rfl
        have kf6 : w7.frozen? ⟨w5.heap.size, 6, none⟩ = false := blk_frozen hp7 6
        have kq7 : w7.cell? ⟨w5.heap.size, 7, none⟩ = some (.bool false) := (blk_cell hp7 7).trans rfl
        have kf7 : w7.frozen? ⟨w5.heap.size, 7, none⟩ = false := blk_frozen hp7 7
        have kq8 : w7.cell? ⟨w5.heap.size, 8, none⟩ = some (.slice none 0 0) := (blk_cell hp7 8).trans rfl
        have kf8 : w7.frozen? ⟨w5.heap.size, 8, none⟩ = false := blk_frozen hp7 8
        clear hp6 hz6 hp7 hz7 hR7 hI7 hg7 hc8 hC8 hgp hgr hrp hsz hb6 hw5
        rcases fin_cases H.out with ⟨hm, hr⟩ | ⟨hm, hr⟩
        · simp only [Prod.mk.injEq] at hr
          obtain ⟨rfl, rfl, rfl, rfl, rfl, rfl, rfl, rfl, rfl, rfl⟩ := hr
          have HM := Aside0.mk hm
          clear hm
          go_wp2_with fail
          refine (pdu_May.calls k _ _ _ _ _ _ _ _ A8 c8 inf2 true _ HC8.out HCL8.out HM.out).mono ?_
          rintro e w9 ⟨rfl, hB9⟩
          have HB9 := Aside0.mk hB9
          have hp9 := blk_below HP8.out hB9
          have hz9 := blk_below HRES8.out hB9
          clear hB9
          have pq0 : w9.cell? ⟨w5.heap.size, 0, none⟩ = some (.int .i64 t1) := (blk_cell hp9 0).trans rfl
          have pq1 : w9.cell? ⟨w5.heap.size, 1, none⟩ = some (.int .i64 (Go.bits .andNot .i64 t2 1)) := (blk_cell hp9 1).trans rfl
          have pq2 : w9.cell? ⟨w5.heap.size, 2, none⟩ = some (.bool (Go.bits .and .i64 t2 1 == 1)) := (blk_cell hp9 2).trans rfl
          have pq3 : w9.cell? ⟨w5.heap.size, 3, none⟩ = some (.int .i64 (1)) := (blk_cell hp9 3).trans rfl
          have pq4 : w9.cell? ⟨w5.heap.size, 4, none⟩ = some (.int .i64 (t3 / 4)) := (blk_cell hp9 4).trans rfl
          have pq5 : w9.cell? ⟨w5.heap.size, 5, none⟩ = some (.int .i64 (0)) := (blk_cell hp9 5).trans rfl
          have pq6 : w9.cell? ⟨w5.heap.size, 6, none⟩ = some (.int .i64 (t4 / 2)) := (blk_cell hp9 6).trans rfl
          have pq7 : w9.cell? ⟨w5.heap.size, 7, none⟩ = some (.bool (Go.bits .and .i64 t4 1 == 1)) := (blk_cell hp9 7).trans rfl
          have pq8 : w9.cell? ⟨w5.heap.size, 8, none⟩ = some (.slice A8 inf2.length c8) := (blk_cell hp9 8).trans rfl
          have zq0 : w9.cell? ⟨w.heap.size, 0, none⟩ = some (.int .i64 0) := (blk_cell hz9 0).trans rfl
          have zf0 : w9.frozen? ⟨w.heap.size, 0, none⟩ = false := blk_frozen hz9 0
          have zq1 : w9.cell? ⟨w.heap.size, 1, none⟩ = some (.int .i64 0) := (blk_cell hz9 1).trans rfl
          have zf1 : w9.frozen? ⟨w.heap.size, 1, none⟩ = false := blk_frozen hz9 1
          have zq2 : w9.cell? ⟨w.heap.size, 2, none⟩ = some (.bool false) := (blk_cell hz9 2).trans rfl
          have zf2 : w9.frozen? ⟨w.heap.size, 2, none⟩ = false := blk_frozen hz9 2
          have zq3 : w9.cell? ⟨w.heap.size, 3, none⟩ = some (.int .i64 0) := (blk_cell hz9 3).trans rfl
          have zf3 : w9.frozen? ⟨w.heap.size, 3, none⟩ = false := blk_frozen hz9 3
          have zq4 : w9.cell? ⟨w.heap.size, 4, none⟩ = some (.int .i64 0) := (blk_cell hz9 4).trans rfl
          have zf4 : w9.frozen? ⟨w.heap.size, 4, none⟩ = false := blk_frozen hz9 4
          have zq5 : w9.cell? ⟨w.heap.size, 5, none⟩ = some (.int .i64 0) := (blk_cell hz9 5).trans rfl
          have zf5 : w9.frozen? ⟨w.heap.size, 5, none⟩ = false := blk_frozen hz9 5
          have zq6 : w9.cell? ⟨w.heap.size, 6, none⟩ = some (.int .i64 0) := (blk_cell hz9 6).trans rfl
          have zf6 : w9.frozen? ⟨w.heap.size, 6, none⟩ = false := blk_frozen hz9 6
          have zq7 : w9.cell? ⟨w.heap.size, 7, none⟩ = some (.bool false) := (blk_cell hz9 7).trans rfl
          have zf7 : w9.frozen? ⟨w.heap.size, 7, none⟩ = false := blk_frozen hz9 7
          have zq8 : w9.cell? ⟨w.heap.size, 8, none⟩ = some (.slice none 0 0) := (blk_cell hz9 8).trans rfl
          have zf8 : w9.frozen? ⟨w.heap.size, 8, none⟩ = false := blk_frozen hz9 8
          clear hp9 hz9
          go_wp2
          refine bodyPost_ret (v := .tuple #[.agg #[.int .i64 t1, .int .i64 (Go.bits .andNot .i64 t2 1), .bool (Go.bits .and .i64 t2 1 == 1), .int .i64 (1), .int .i64 (t3 / 4), .int .i64 (0), .int .i64 (t4 / 2), .bool ((Go.bits .and .i64 t4 1 == 1)), .slice A8 inf2.length c8], .int .i64 0]) (by simp [results, Try.results29, go_sem, hu, zq0, zf0, zq1, zf1, zq2, zf2, zq3, zf3, zq4, zf4, zq5, zf5, zq6, zf6, zq7, zf7, zq8, zf8]) rfl ⟨_, rfl, ?_, ?_⟩
          · refine Kd.R_mono (ok := fun k => k ≠ w5.heap.size ∧ k ≠ w.heap.size) ?_ (fun _ _ => trivial)
            repeat (with_reducible refine Kd.R_far ?_ (fun k hk => hk.2) _)
            exact Kd.R_lower (Kd.R_below HR8.out HB9.out) HBW.out.size
          · repeat (with_reducible refine below_set ?_ (Nat.le_refl _))
            exact below_step HB8.out HB9.out
        · simp only [pduBad, Prod.mk.injEq] at hr
          obtain ⟨rfl, rfl, rfl, rfl, rfl, rfl, rfl, rfl, rfl, rfl⟩ := hr
          have HM := Aside0.mk hm
          clear hm
          go_wp2_with fail
          refine (pdu_May.calls k _ _ _ _ _ _ _ _ A8 c8 inf2 false _ HC8.out HCL8.out HM.out).mono ?_
          rintro e w9 ⟨rfl, hB9⟩
          have HB9 := Aside0.mk hB9
          have hp9 := blk_below HP8.out hB9
          have hz9 := blk_below HRES8.out hB9
          clear hB9
          have zq0 : w9.cell? ⟨w.heap.size, 0, none⟩ = some (.int .i64 0) := (blk_cell hz9 0).trans rfl
          have zf0 : w9.frozen? ⟨w.heap.size, 0, none⟩ = false := blk_frozen hz9 0
          have zq1 : w9.cell? ⟨w.heap.size, 1, none⟩ = some (.int .i64 0) := (blk_cell hz9 1).trans rfl
          have zf1 : w9.frozen? ⟨w.heap.size, 1, none⟩ = false := blk_frozen hz9 1
          have zq2 : w9.cell? ⟨w.heap.size, 2, none⟩ = some (.bool false) := (blk_cell hz9 2).trans rfl
          have zf2 : w9.frozen? ⟨w.heap.size, 2, none⟩ = false := blk_frozen hz9 2
          have zq3 : w9.cell? ⟨w.heap.size, 3, none⟩ = some (.int .i64 0) := (blk_cell hz9 3).trans rfl
          have zf3 : w9.frozen? ⟨w.heap.size, 3, none⟩ = false := blk_frozen hz9 3
          have zq4 : w9.cell? ⟨w.heap.size, 4, none⟩ = some (.int .i64 0) := (blk_cell hz9 4).trans rfl
          have zf4 : w9.frozen? ⟨w.heap.size, 4, none⟩ = false := blk_frozen hz9 4
          have zq5 : w9.cell? ⟨w.heap.size, 5, none⟩ = some (.int .i64 0) := (blk_cell hz9 5).trans rfl
          have zf5 : w9.frozen? ⟨w.heap.size, 5, none⟩ = false := blk_frozen hz9 5
          have zq6 : w9.cell? ⟨w.heap.size, 6, none⟩ = some (.int .i64 0) := (blk_cell hz9 6).trans rfl
          have zf6 : w9.frozen? ⟨w.heap.size, 6, none⟩ = false := blk_frozen hz9 6
          have zq7 : w9.cell? ⟨w.heap.size, 7, none⟩ = some (.bool false) := (blk_cell hz9 7).trans rfl
          have zf7 : w9.frozen? ⟨w.heap.size, 7, none⟩ = false := blk_frozen hz9 7
          have zq8 : w9.cell? ⟨w.heap.size, 8, none⟩ = some (.slice none 0 0) := (blk_cell hz9 8).trans rfl
          have zf8 : w9.frozen? ⟨w.heap.size, 8, none⟩ = false := blk_frozen hz9 8
          clear hp9 hz9
          go_wp2
          refine bodyPost_ret (v := .tuple #[.agg #[.int .i64 0, .int .i64 0, .bool false, .int .i64 0, .int .i64 0, .int .i64 0, .int .i64 0, .bool false, .slice none 0 0], .int .i64 4]) (by simp [results, Try.results29, go_sem, hu, zq0, zf0, zq1, zf1, zq2, zf2, zq3, zf3, zq4, zf4, zq5, zf5, zq6, zf6, zq7, zf7, zq8, zf8]) rfl ⟨_, rfl, Kd.R_nil _ _ _ _ _, ?_⟩
          repeat (with_reducible refine below_set ?_ (Nat.le_refl _))
          exact below_step HB8.out HB9.out

theorem pdu_Decode.calls (k : Nat) (A0 : Option Addr) (c0 : Nat) (l0 : List Int) (r1 r2 : Int) (r3 : Bool) (r4 r5 r6 r7 : Int) (r8 : Bool) (r9 : List Int) (r10 : Int) (w : World) (hr0 : Kd.C (Kd.int .u8) w A0 l0.length l0) (hc0 : l0.length ≤ c0) (h : pdu_Decode.f k l0 = some (r1, r2, r3, r4, r5, r6, r7, r8, r9, r10)) :
    Calls Try.prog 29 #[.slice A0 l0.length c0] w fun e w' => ∃ v8_ : Value, e = .returned (.tuple #[.agg #[.int .i64 r1, .int .i64 r2, .bool r3, .int .i64 r4, .int .i64 r5, .int .i64 r6, .int .i64 r7, .bool r8, v8_], .int .i64 r10]) ∧ Kd.R (Kd.int .u8) 5 w' w.heap.size (fun _ => True) v8_ r9 ∧ Below w.heap.size w w' := by
  by_cases h3 : l0.length < 3
  · unfold pdu_Decode.f at h
    rw [if_pos h3] at h
    simp only [pduBad, Option.some.injEq, Prod.mk.injEq] at h
    obtain ⟨rfl, rfl, rfl, rfl, rfl, rfl, rfl, rfl, rfl, rfl⟩ := h
    refine (pdu_Decode.short A0 c0 l0 w hr0 hc0 h3).mono ?_
    rintro e w' ⟨rfl, hb⟩
    exact ⟨_, rfl, Kd.R_nil _ _ _ _ _, hb⟩
  · exact pdu_Decode.long k A0 c0 l0 r1 r2 r3 r4 r5 r6 r7 r8 r9 r10 w hr0 hc0 h3 h

end Go.Proofs.Ytnmcoebjkfpmjaa.P
