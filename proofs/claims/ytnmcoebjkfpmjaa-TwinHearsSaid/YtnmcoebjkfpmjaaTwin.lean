-- Written by this session: the check of chapter 14: contracts of twin's functions.
import Derived.Test.YtnmcoebjkfpmjaaPx35
import Derived.RegionTactic
import Derived.ChangeAlike
import Derived.Deep.QuietTactic
import Derived.BigQuiet
namespace Go.Proofs.Ytnmcoebjkfpmjaa.P
open Go.RowKit Go.Proofs.YtnmcoebjkfpmjaaW.PrintWords Go.Proofs.YtnmcoebjkfpmjaaW.PrintLast Go.Proofs.YtnmcoebjkfpmjaaW.PrintMore
set_option linter.unusedVariables false
set_option linter.unusedSimpArgs false
/-- A check lies in block g: how often, how long, how it stands, how often it asked, how long ago. -/
def IsTw (W : World) (g : Nat) (tr wa st se si : Int) : Prop := W.heap[g]? = some (.cells #[.int .i64 tr, .int .i64 wa, .int .i64 st, .int .i64 se, .int .i64 si] 130 (0, 0))
theorem IsTw.c0 {W : World} {g : Nat} {tr wa st se si : Int} (h : IsTw W g tr wa st se si) : W.cell? ⟨g, 0, none⟩ = some (.int .i64 tr) := (blk_cell h 0).trans rfl
theorem IsTw.c1 {W : World} {g : Nat} {tr wa st se si : Int} (h : IsTw W g tr wa st se si) : W.cell? ⟨g, 1, none⟩ = some (.int .i64 wa) := (blk_cell h 1).trans rfl
theorem IsTw.c2 {W : World} {g : Nat} {tr wa st se si : Int} (h : IsTw W g tr wa st se si) : W.cell? ⟨g, 2, none⟩ = some (.int .i64 st) := (blk_cell h 2).trans rfl
theorem IsTw.c3 {W : World} {g : Nat} {tr wa st se si : Int} (h : IsTw W g tr wa st se si) : W.cell? ⟨g, 3, none⟩ = some (.int .i64 se) := (blk_cell h 3).trans rfl
theorem IsTw.c4 {W : World} {g : Nat} {tr wa st se si : Int} (h : IsTw W g tr wa st se si) : W.cell? ⟨g, 4, none⟩ = some (.int .i64 si) := (blk_cell h 4).trans rfl
theorem IsTw.below {W W1 : World} {g : Nat} {tr wa st se si : Int} (h : IsTw W g tr wa st se si) (hw : Below W.heap.size W W1) : IsTw W1 g tr wa st se si := (hw.block g (blk_lt h)).trans h
theorem IsTw.lt {W : World} {g : Nat} {tr wa st se si : Int} (h : IsTw W g tr wa st se si) : g < W.heap.size := blk_lt h
abbrev pduZ : Value := .agg #[.int .i64 0, .int .i64 0, .bool false, .int .i64 0, .int .i64 0, .int .i64 0, .int .i64 0, .bool false, .slice none 0 0]
abbrev pduT : Value := .agg #[.int .i64 0, .int .i64 0, .bool false, .int .i64 2, .int .i64 2, .int .i64 0, .int .i64 0, .bool true, .slice none 0 0]
set_option maxHeartbeats 4000000 in
set_option maxRecDepth 100000 in
theorem twin_State.rd (w : World) (g : Nat) (tr wa st se si : Int) (h : IsTw w g tr wa st se si) :
    Calls Try.prog 73 #[.pointer (some ⟨g, 0, none⟩)] w fun e w' => e = .returned (.int .i64 st) ∧ w = w' := by
  have h2 := h.c2
  clear h
  go_enter Try.func73, Try.ntmps73
  go_wp2
  go_ret
  exact ⟨rfl, rfl⟩
set_option maxHeartbeats 4000000 in
set_option maxRecDepth 100000 in
theorem twin_New.no (w : World) (a b : Int) (h : a < 1 ∨ 100 < a ∨ b < 1 ∨ 10000 < b) :
    Calls Try.prog 70 #[.int .i64 a, .int .i64 b] w fun e w' => e = .returned (.tuple #[.pointer none, .int .i64 1]) ∧ Below w.heap.size w w' := by
  have HB := Aside0.mk (Below.refl w.heap.size w)
  have H := Aside0.mk h
  clear h
  by_cases h1 : a < 1
  · have d1 : decide (a < 1) = true := decide_eq_true h1
    go_enter Try.func70, Try.ntmps70
    go_wp2
    go_ret2
    exact ⟨rfl, by first | exact HB.out | exact pw_below_drewN HB.out _ | exact below_drew1 HB.out⟩
  have d1 : decide (a < 1) = false := decide_eq_false h1
  by_cases h2 : 100 < a
  · have d2 : decide (100 < a) = true := decide_eq_true h2
    go_enter Try.func70, Try.ntmps70
    go_wp2
    go_ret2
    exact ⟨rfl, by first | exact HB.out | exact pw_below_drewN HB.out _ | exact below_drew1 HB.out⟩
  have d2 : decide (100 < a) = false := decide_eq_false h2
  by_cases h3 : b < 1
  · have d3 : decide (b < 1) = true := decide_eq_true h3
    go_enter Try.func70, Try.ntmps70
    go_wp2
    go_ret2
    exact ⟨rfl, by first | exact HB.out | exact pw_below_drewN HB.out _ | exact below_drew1 HB.out⟩
  have d3 : decide (b < 1) = false := decide_eq_false h3
  have d4 : decide (10000 < b) = true := decide_eq_true (by have := H.out; omega)
  go_enter Try.func70, Try.ntmps70
  go_wp2
  go_ret2
  exact ⟨rfl, by first | exact HB.out | exact pw_below_drewN HB.out _ | exact below_drew1 HB.out⟩
set_option maxHeartbeats 4000000 in
set_option maxRecDepth 100000 in
theorem twin_New.yes (w : World) (a b : Int) (h1 : 1 ≤ a) (h2 : a ≤ 100) (h3 : 1 ≤ b) (h4 : b ≤ 10000) :
    Calls Try.prog 70 #[.int .i64 a, .int .i64 b] w fun e w' => e = .returned (.tuple #[.pointer (some ⟨w.heap.size, 0, none⟩), .int .i64 0]) ∧ Below w.heap.size w w' ∧ IsTw w' w.heap.size a b 0 0 0 := by
  have HB := Aside0.mk (Below.refl w.heap.size w)
  have d1 : decide (a < 1) = false := decide_eq_false (by omega)
  have d2 : decide (100 < a) = false := decide_eq_false (by omega)
  have d3 : decide (b < 1) = false := decide_eq_false (by omega)
  have d4 : decide (10000 < b) = false := decide_eq_false (by omega)
  clear h1 h2 h3 h4
  go_enter Try.func70, Try.ntmps70
  go_wp2
  go_ret2
  exact ⟨rfl, below_alloc HB.out _, blk_new w _⟩
theorem IsTw.put3 {W : World} {g : Nat} {tr wa st se si : Int} (h : IsTw W g tr wa st se si) (x : Int) : IsTw (W.setCell ⟨g, 3, none⟩ (.int .i64 x)) g tr wa st x si := blk_put h 3 _ rfl
theorem IsTw.put2 {W : World} {g : Nat} {tr wa st se si : Int} (h : IsTw W g tr wa st se si) (x : Int) : IsTw (W.setCell ⟨g, 2, none⟩ (.int .i64 x)) g tr wa x se si := blk_put h 2 _ rfl
theorem IsTw.put4 {W : World} {g : Nat} {tr wa st se si : Int} (h : IsTw W g tr wa st se si) (x : Int) : IsTw (W.setCell ⟨g, 4, none⟩ (.int .i64 x)) g tr wa st se x := blk_put h 4 _ rfl
theorem IsTw.frozen {W : World} {g : Nat} {tr wa st se si : Int} (h : IsTw W g tr wa st se si) (j : Nat) : W.frozen? ⟨g, j, none⟩ = false := blk_frozen h j
theorem IsTw.far {W : World} {g b j : Nat} {u : Value} {tr wa st se si : Int} (h : IsTw W g tr wa st se si) (hne : g ≠ b) : IsTw (W.setCell ⟨b, j, none⟩ u) g tr wa st se si := (Below.heap_setCell W ⟨b, j, none⟩ u g hne).trans h
theorem grown_new {w W : World} {g b j : Nat} {u : Value} (h : w.grownBy W (some g)) (hb : w.heap.size ≤ b) : w.grownBy (W.setCell ⟨b, j, none⟩ u) (some g) :=
  ⟨h.os, h.tape, h.output, by have := h.size; simpa [World.setCell] using this, fun i hi hne => (Below.heap_setCell W ⟨b, j, none⟩ u i (by show i ≠ b; omega)).trans (h.block i hi hne)⟩
theorem grown_own {w W : World} {g j : Nat} {u : Value} (h : w.grownBy W (some g)) : w.grownBy (W.setCell ⟨g, j, none⟩ u) (some g) :=
  ⟨h.os, h.tape, h.output, by have := h.size; simpa [World.setCell] using this, fun i hi hne => (Below.heap_setCell W ⟨g, j, none⟩ u i (fun e => hne (by rw [show i = g from e]))).trans (h.block i hi hne)⟩
theorem only_drewN_ {a w : World} {row : Option Nat} (h : a.grownBy w row) (n : Nat) : a.grownBy (w.drewN n) row := ⟨h.os, h.tape, h.output, h.size, h.block⟩
theorem grown_below {a w : World} (h : Below a.heap.size a w) (row : Option Nat) : a.grownBy w row := ⟨h.os, h.tape, h.output, h.size, fun i hi _ => h.block i hi⟩
set_option maxHeartbeats 4000000 in
set_option maxRecDepth 100000 in
theorem twin_ask.calls (w : World) (g : Nat) (tr wa st se si : Int) (h : IsTw w g tr wa st se si) (hse : 0 ≤ se ∧ se ≤ 1000) :
    Calls Try.prog 113 #[.pointer (some ⟨g, 0, none⟩)] w fun e w' => e = .returned pduT ∧ IsTw w' g tr wa st (se + 1) 0 ∧ w.grownBy w' (some g) := by
  have hne : g ≠ w.heap.size := Nat.ne_of_lt h.lt
  have HT : Aside0 (∀ o, IsTw (w.alloc o) g tr wa st se si) := ⟨fun o => h.below (below_alloc (Below.refl _ _) o)⟩
  have h3 : ∀ o, (w.alloc o).cell? ⟨g, 3, none⟩ = some (.int .i64 se) := fun o => (HT.out o).c3
  have h4 : ∀ o, (w.alloc o).cell? ⟨g, 4, none⟩ = some (.int .i64 si) := fun o => (HT.out o).c4
  have hg4 : ∀ o, (w.alloc o).frozen? ⟨g, 4, none⟩ = false := fun o => (HT.out o).frozen 4
  have hf3 : ∀ o, (w.alloc o).frozen? ⟨g, 3, none⟩ = false := fun o => (HT.out o).frozen 3
  have hf4 : ∀ o x, ((w.alloc o).setCell ⟨g, 3, none⟩ (.int .i64 x)).frozen? ⟨g, 4, none⟩ = false := fun o x => ((HT.out o).put3 x).frozen 4
  have hw : IntKind.i64.wrap (se + 1) = se + 1 := by rw [i64_w]; unfold wrap64; omega
  clear h
  go_enter Try.func113, Try.ntmps113
  have hu := Try.underlying25
  go_wp2_with fail
  refine bodyPost_ret (v := pduT) (by simp [results, Try.results113, go_sem, hu]) rfl ⟨rfl, ?_, ?_⟩
  · repeat (with_reducible refine IsTw.far ?_ hne)
    exact (((HT.out _).put3 _).put4 _)
  · repeat (with_reducible refine grown_new ?_ (Nat.le_refl _))
    exact grown_own (grown_own (grown_below (below_alloc (Below.refl _ _) _) _))
abbrev zCells : Obj := .cells #[.int .i64 0, .int .i64 0, .bool false, .int .i64 0, .int .i64 0, .int .i64 0, .int .i64 0, .bool false, .slice none 0 0] 25 (0, 0)
theorem zf {W : World} {b : Nat} (h : W.heap[b]? = some zCells) : (W.cell? ⟨b, 0, none⟩ = some (.int .i64 0) ∧ W.cell? ⟨b, 1, none⟩ = some (.int .i64 0) ∧ W.cell? ⟨b, 2, none⟩ = some (.bool false) ∧ W.cell? ⟨b, 3, none⟩ = some (.int .i64 0) ∧ W.cell? ⟨b, 4, none⟩ = some (.int .i64 0) ∧ W.cell? ⟨b, 5, none⟩ = some (.int .i64 0) ∧ W.cell? ⟨b, 6, none⟩ = some (.int .i64 0) ∧ W.cell? ⟨b, 7, none⟩ = some (.bool false) ∧ W.cell? ⟨b, 8, none⟩ = some (.slice none 0 0)) ∧
    (W.frozen? ⟨b, 0, none⟩ = false ∧ W.frozen? ⟨b, 1, none⟩ = false ∧ W.frozen? ⟨b, 2, none⟩ = false ∧ W.frozen? ⟨b, 3, none⟩ = false ∧ W.frozen? ⟨b, 4, none⟩ = false ∧ W.frozen? ⟨b, 5, none⟩ = false ∧ W.frozen? ⟨b, 6, none⟩ = false ∧ W.frozen? ⟨b, 7, none⟩ = false ∧ W.frozen? ⟨b, 8, none⟩ = false) :=
  ⟨⟨(blk_cell h 0).trans rfl, (blk_cell h 1).trans rfl, (blk_cell h 2).trans rfl, (blk_cell h 3).trans rfl, (blk_cell h 4).trans rfl, (blk_cell h 5).trans rfl, (blk_cell h 6).trans rfl, (blk_cell h 7).trans rfl, (blk_cell h 8).trans rfl⟩,
   ⟨blk_frozen h 0, blk_frozen h 1, blk_frozen h 2, blk_frozen h 3, blk_frozen h 4, blk_frozen h 5, blk_frozen h 6, blk_frozen h 7, blk_frozen h 8⟩⟩
set_option maxHeartbeats 4000000 in
set_option maxRecDepth 100000 in
theorem twin_Start.no (w : World) (g : Nat) (tr wa se si : Int) (h : IsTw w g tr wa 1 se si) (htr : tr ≠ 0) :
    Calls Try.prog 72 #[.pointer (some ⟨g, 0, none⟩)] w fun e w' => e = .returned (.tuple #[pduZ, .bool false]) ∧ IsTw w' g tr wa 1 se si ∧ w.grownBy w' (some g) := by
  have hne : g ≠ w.heap.size := Nat.ne_of_lt h.lt
  have HT : Aside0 (∀ o, IsTw (w.alloc o) g tr wa 1 se si) := ⟨fun o => h.below (below_alloc (Below.refl _ _) o)⟩
  have h0 : ∀ o, (w.alloc o).cell? ⟨g, 0, none⟩ = some (.int .i64 tr) := fun o => (HT.out o).c0
  have h2 : ∀ o, (w.alloc o).cell? ⟨g, 2, none⟩ = some (.int .i64 1) := fun o => (HT.out o).c2
  have htr' : (tr == 0) = false := beq_eq_false_iff_ne.mpr htr
  have hu := Try.underlying25
  clear h
  go_enter Try.func72, Try.ntmps72
  go_wp2_with fail
  refine bodyPost_ret (v := .tuple #[pduZ, .bool false]) (by simp [results, Try.results72, go_sem, hu]) rfl ⟨rfl, HT.out _, grown_below (below_alloc (Below.refl _ _) _) _⟩
set_option maxHeartbeats 4000000 in
set_option maxRecDepth 100000 in
theorem twin_Start.yes (w : World) (g : Nat) (tr wa st se si : Int) (h : IsTw w g tr wa st se si) (htr : tr ≠ 0) (hst : st ≠ 1) :
    Calls Try.prog 72 #[.pointer (some ⟨g, 0, none⟩)] w fun e w' => e = .returned (.tuple #[pduT, .bool true]) ∧ IsTw w' g tr wa 1 1 0 ∧ w.grownBy w' (some g) := by
  have hlt := h.lt
  have hne : g ≠ w.heap.size := Nat.ne_of_lt h.lt
  have H0 := Aside0.mk h
  have h0 := h.c0
  have h2 := h.c2
  have h3 := h.c3
  have f2 := h.frozen 2
  have f3 := h.frozen 3
  have htr' : (tr == 0) = false := beq_eq_false_iff_ne.mpr htr
  have hst' : (st == 1) = false := beq_eq_false_iff_ne.mpr hst
  have hu := Try.underlying25
  clear h
  go_enter Try.func72, Try.ntmps72
  go_wp2_with fail
  have hT1 : IsTw ((w.setCell ⟨g, 2, none⟩ (.int .i64 1)).setCell ⟨g, 3, none⟩ (.int .i64 0)) g tr wa 1 0 si := (H0.out.put2 1).put3 0
  have hsz : ((w.setCell ⟨g, 2, none⟩ (.int .i64 1)).setCell ⟨g, 3, none⟩ (.int .i64 0)).heap.size = w.heap.size := by simp [World.setCell]
  have hgr : w.grownBy ((w.setCell ⟨g, 2, none⟩ (.int .i64 1)).setCell ⟨g, 3, none⟩ (.int .i64 0)) (some g) := grown_own (grown_own (World.grownBy.refl _ _))
  generalize (w.setCell ⟨g, 2, none⟩ (.int .i64 1)).setCell ⟨g, 3, none⟩ (.int .i64 0) = wm at hT1 hsz hgr ⊢
  have hnew : (wm.alloc zCells).heap[w.heap.size]? = some zCells := by rw [← hsz]; exact blk_new wm zCells
  have hgr2 : w.grownBy (wm.alloc zCells) (some g) := hgr.trans (grown_below (below_alloc (Below.refl _ _) _) _)
  refine (twin_ask.calls _ g tr wa 1 0 si (hT1.below (below_alloc (Below.refl _ _) _)) (by decide)).mono ?_
  rintro e w2 ⟨rfl, hI, hg⟩
  have hz : w2.heap[w.heap.size]? = some zCells := (hg.block _ (blk_lt hnew) (fun e => hne (by injection e with e; exact e.symm))).trans hnew
  obtain ⟨⟨k0, k1, k2, k3, k4, k5, k6, k7, k8⟩, z0, z1, z2, z3, z4, z5, z6, z7, z8⟩ := zf hz
  have HI := Aside0.mk hI
  have HG := Aside0.mk (hgr2.trans hg)
  clear hI hg hz hnew hgr2 hgr hT1 h0 h2 h3 f2 f3
  go_wp2_with fail
  refine bodyPost_ret (v := .tuple #[pduT, .bool true]) (by simp [results, Try.results72, go_sem, hu, k0, k1, k2, k3, k4, k5, k6, k7, k8]) rfl ⟨rfl, ?_, ?_⟩
  · repeat (with_reducible refine IsTw.far ?_ hne)
    exact HI.out
  · repeat (with_reducible refine grown_new ?_ (Nat.le_refl _))
    exact HG.out
/-- A tick of who does not ask. -/
theorem twin_Tick_tmp : True := trivial
set_option maxHeartbeats 4000000 in
set_option maxRecDepth 100000 in
theorem twin_Tick.idle (w : World) (g : Nat) (tr wa st se si : Int) (h : IsTw w g tr wa st se si) (hst : st ≠ 1) :
    Calls Try.prog 76 #[.pointer (some ⟨g, 0, none⟩)] w fun e w' => e = .returned (.tuple #[pduZ, .bool false]) ∧ IsTw w' g tr wa st se si ∧ w.grownBy w' (some g) := by
  have hlt := h.lt
  have H0 := Aside0.mk h
  have hst' : (st != 1) = true := bne_iff_ne.mpr hst
  have hu := Try.underlying25
  clear h
  go_enter Try.func76, Try.ntmps76
  go_wp2_with fail
  refine (twin_State.rd _ g tr wa st se si (H0.out.below (below_alloc (Below.refl _ _) _))).mono ?_
  rintro e w2 ⟨rfl, rfl⟩
  go_wp2_with fail
  refine bodyPost_ret (v := .tuple #[pduZ, .bool false]) (by simp [results, Try.results76, go_sem, hu]) rfl ⟨rfl, H0.out.below (below_alloc (Below.refl _ _) _), grown_below (below_alloc (Below.refl _ _) _) _⟩
set_option maxHeartbeats 4000000 in
set_option maxRecDepth 100000 in
theorem twin_Tick.wait (w : World) (g : Nat) (tr wa se si : Int) (h : IsTw w g tr wa 1 se si) (hsi : 0 ≤ si ∧ si ≤ 20000) (hw : si + 1 < wa) :
    Calls Try.prog 76 #[.pointer (some ⟨g, 0, none⟩)] w fun e w' => e = .returned (.tuple #[pduZ, .bool false]) ∧ IsTw w' g tr wa 1 se (si + 1) ∧ w.grownBy w' (some g) := by
  have hlt := h.lt
  have hne : g ≠ w.heap.size := Nat.ne_of_lt h.lt
  have H0 := Aside0.mk h
  have h4 := h.c4
  have f4 := h.frozen 4
  have hwr : IntKind.i64.wrap (si + 1) = si + 1 := by rw [i64_w]; unfold wrap64; omega
  have hd : decide (si + 1 < wa) = true := decide_eq_true hw
  have hu := Try.underlying25
  clear h
  go_enter Try.func76, Try.ntmps76
  go_wp2_with fail
  refine (twin_State.rd _ g tr wa 1 se si (H0.out.below (below_alloc (Below.refl _ _) _))).mono ?_
  rintro e w2 ⟨rfl, rfl⟩
  go_wp2_with fail
  have hT1 : IsTw (w.setCell ⟨g, 4, none⟩ (.int .i64 (si + 1))) g tr wa 1 se (si + 1) := H0.out.put4 _
  have hsz : (w.setCell ⟨g, 4, none⟩ (.int .i64 (si + 1))).heap.size = w.heap.size := by simp [World.setCell]
  have hgr : w.grownBy (w.setCell ⟨g, 4, none⟩ (.int .i64 (si + 1))) (some g) := grown_own (World.grownBy.refl _ _)
  generalize w.setCell ⟨g, 4, none⟩ (.int .i64 (si + 1)) = wm at hT1 hsz hgr ⊢
  have hnew : (wm.alloc zCells).heap[w.heap.size]? = some zCells := by rw [← hsz]; exact blk_new wm zCells
  have hgr2 : w.grownBy (wm.alloc zCells) (some g) := hgr.trans (grown_below (below_alloc (Below.refl _ _) _) _)
  have hT2 : IsTw (wm.alloc zCells) g tr wa 1 se (si + 1) := hT1.below (below_alloc (Below.refl _ _) _)
  clear hgr hsz hT1
  change Code.wp _ _ _ _ (wm.alloc zCells)
  generalize wm.alloc zCells = wn at hnew hgr2 hT2 ⊢
  clear h4 f4 wm
  have HN := Aside0.mk hnew
  have HG := Aside0.mk hgr2
  have HT := Aside0.mk hT2
  have n4 := hT2.c4
  have n1 := hT2.c1
  clear hT2
  clear hnew hgr2
  go_quiet (fail)
  generalize hwq : wn.drewN _ = wq
  have HN' := Aside0.mk (show wq.heap[w.heap.size]? = some zCells by rw [← hwq]; exact HN.out)
  have HT' := Aside0.mk (show IsTw wq g tr wa 1 se (si + 1) by rw [← hwq]; exact HT.out)
  have HG' := Aside0.mk (show w.grownBy wq (some g) by rw [← hwq]; exact only_drewN_ HG.out _)
  clear hwq n4 n1
  obtain ⟨⟨k0, k1, k2, k3, k4, k5, k6, k7, k8⟩, z0, z1, z2, z3, z4, z5, z6, z7, z8⟩ := zf HN'.out
  go_wp2_with fail
  refine bodyPost_ret (v := .tuple #[pduZ, .bool false]) (by simp [results, Try.results76, go_sem, hu, k0, k1, k2, k3, k4, k5, k6, k7, k8]) rfl ⟨rfl, ?_, ?_⟩
  · repeat (with_reducible refine IsTw.far ?_ hne)
    exact HT'.out
  · repeat (with_reducible refine grown_new ?_ (Nat.le_refl _))
    exact HG'.out
set_option maxHeartbeats 4000000 in
set_option maxRecDepth 100000 in
theorem twin_Tick.alone (w : World) (g : Nat) (tr wa se si : Int) (h : IsTw w g tr wa 1 se si) (hsi : 0 ≤ si ∧ si ≤ 20000) (hw : wa ≤ si + 1) (hse : tr ≤ se) :
    Calls Try.prog 76 #[.pointer (some ⟨g, 0, none⟩)] w fun e w' => e = .returned (.tuple #[pduZ, .bool false]) ∧ IsTw w' g tr wa 2 se (si + 1) ∧ w.grownBy w' (some g) := by
  have hlt := h.lt
  have hne : g ≠ w.heap.size := Nat.ne_of_lt h.lt
  have H0 := Aside0.mk h
  have h4 := h.c4
  have f4 := h.frozen 4
  have hwr : IntKind.i64.wrap (si + 1) = si + 1 := by rw [i64_w]; unfold wrap64; omega
  have hd : decide (si + 1 < wa) = false := decide_eq_false (by omega)
  have hd2 : decide (tr ≤ se) = true := decide_eq_true hse
  have hu := Try.underlying25
  clear h
  go_enter Try.func76, Try.ntmps76
  go_wp2_with fail
  refine (twin_State.rd _ g tr wa 1 se si (H0.out.below (below_alloc (Below.refl _ _) _))).mono ?_
  rintro e w2 ⟨rfl, rfl⟩
  go_wp2_with fail
  have hT1 : IsTw (w.setCell ⟨g, 4, none⟩ (.int .i64 (si + 1))) g tr wa 1 se (si + 1) := H0.out.put4 _
  have hsz : (w.setCell ⟨g, 4, none⟩ (.int .i64 (si + 1))).heap.size = w.heap.size := by simp [World.setCell]
  have hgr : w.grownBy (w.setCell ⟨g, 4, none⟩ (.int .i64 (si + 1))) (some g) := grown_own (World.grownBy.refl _ _)
  generalize w.setCell ⟨g, 4, none⟩ (.int .i64 (si + 1)) = wm at hT1 hsz hgr ⊢
  have hnew : (wm.alloc zCells).heap[w.heap.size]? = some zCells := by rw [← hsz]; exact blk_new wm zCells
  have hgr2 : w.grownBy (wm.alloc zCells) (some g) := hgr.trans (grown_below (below_alloc (Below.refl _ _) _) _)
  have hT2 : IsTw (wm.alloc zCells) g tr wa 1 se (si + 1) := hT1.below (below_alloc (Below.refl _ _) _)
  clear hgr hsz hT1
  change Code.wp _ _ _ _ (wm.alloc zCells)
  generalize wm.alloc zCells = wn at hnew hgr2 hT2 ⊢
  clear h4 f4 wm
  have HN := Aside0.mk hnew
  have HG := Aside0.mk hgr2
  have HT := Aside0.mk hT2
  have n4 := hT2.c4
  have n1 := hT2.c1
  clear hT2
  clear hnew hgr2
  go_quiet (fail)
  generalize hwq : wn.drewN _ = wq
  have HN1 := Aside0.mk (show wq.heap[w.heap.size]? = some zCells by rw [← hwq]; exact HN.out)
  have HT1 := Aside0.mk (show IsTw wq g tr wa 1 se (si + 1) by rw [← hwq]; exact HT.out)
  have HG1 := Aside0.mk (show w.grownBy wq (some g) by rw [← hwq]; exact only_drewN_ HG.out _)
  clear hwq n4 n1 HN HT HG
  have n0 := HT1.out.c0
  have n3 := HT1.out.c3
  go_wp2_with fail
  go_quiet (fail)
  generalize hwq : wq.drewN _ = wp
  have HN' := Aside0.mk (show wp.heap[w.heap.size]? = some zCells by rw [← hwq]; exact HN1.out)
  have HT' := Aside0.mk (show IsTw wp g tr wa 1 se (si + 1) by rw [← hwq]; exact HT1.out)
  have HG' := Aside0.mk (show w.grownBy wp (some g) by rw [← hwq]; exact only_drewN_ HG1.out _)
  clear hwq n0 n3
  have hgs : g < wp.heap.size := HT'.out.lt
  have m2 := HT'.out.c2
  have mf2 := HT'.out.frozen 2
  obtain ⟨⟨k0, k1, k2, k3, k4, k5, k6, k7, k8⟩, z0, z1, z2, z3, z4, z5, z6, z7, z8⟩ := zf HN'.out
  go_wp2_with fail
  refine bodyPost_ret (v := .tuple #[pduZ, .bool false]) (by simp [results, Try.results76, go_sem, hu, k0, k1, k2, k3, k4, k5, k6, k7, k8]) rfl ⟨rfl, ?_, ?_⟩
  · repeat (with_reducible refine IsTw.far ?_ hne)
    exact HT'.out.put2 2
  · repeat (with_reducible refine grown_new ?_ (Nat.le_refl _))
    exact grown_own HG'.out
set_option maxHeartbeats 4000000 in
set_option maxRecDepth 100000 in
theorem twin_Tick.more (w : World) (g : Nat) (tr wa se si : Int) (h : IsTw w g tr wa 1 se si) (hsi : 0 ≤ si ∧ si ≤ 20000) (hw : wa ≤ si + 1) (hse : se < tr) (hse0 : 0 ≤ se ∧ se ≤ 1000) :
    Calls Try.prog 76 #[.pointer (some ⟨g, 0, none⟩)] w fun e w' => e = .returned (.tuple #[pduT, .bool true]) ∧ IsTw w' g tr wa 1 (se + 1) 0 ∧ w.grownBy w' (some g) := by
  have hlt := h.lt
  have hne : g ≠ w.heap.size := Nat.ne_of_lt h.lt
  have H0 := Aside0.mk h
  have h4 := h.c4
  have f4 := h.frozen 4
  have hwr : IntKind.i64.wrap (si + 1) = si + 1 := by rw [i64_w]; unfold wrap64; omega
  have hd : decide (si + 1 < wa) = false := decide_eq_false (by omega)
  have hd2 : decide (tr ≤ se) = false := decide_eq_false (by omega)
  have hu := Try.underlying25
  clear h
  go_enter Try.func76, Try.ntmps76
  go_wp2_with fail
  refine (twin_State.rd _ g tr wa 1 se si (H0.out.below (below_alloc (Below.refl _ _) _))).mono ?_
  rintro e w2 ⟨rfl, rfl⟩
  go_wp2_with fail
  have hT1 : IsTw (w.setCell ⟨g, 4, none⟩ (.int .i64 (si + 1))) g tr wa 1 se (si + 1) := H0.out.put4 _
  have hsz : (w.setCell ⟨g, 4, none⟩ (.int .i64 (si + 1))).heap.size = w.heap.size := by simp [World.setCell]
  have hgr : w.grownBy (w.setCell ⟨g, 4, none⟩ (.int .i64 (si + 1))) (some g) := grown_own (World.grownBy.refl _ _)
  generalize w.setCell ⟨g, 4, none⟩ (.int .i64 (si + 1)) = wm at hT1 hsz hgr ⊢
  have hnew : (wm.alloc zCells).heap[w.heap.size]? = some zCells := by rw [← hsz]; exact blk_new wm zCells
  have hgr2 : w.grownBy (wm.alloc zCells) (some g) := hgr.trans (grown_below (below_alloc (Below.refl _ _) _) _)
  have hT2 : IsTw (wm.alloc zCells) g tr wa 1 se (si + 1) := hT1.below (below_alloc (Below.refl _ _) _)
  clear hgr hsz hT1
  change Code.wp _ _ _ _ (wm.alloc zCells)
  generalize wm.alloc zCells = wn at hnew hgr2 hT2 ⊢
  clear h4 f4 wm
  have HN := Aside0.mk hnew
  have HG := Aside0.mk hgr2
  have HT := Aside0.mk hT2
  have n4 := hT2.c4
  have n1 := hT2.c1
  clear hT2
  clear hnew hgr2
  go_quiet (fail)
  generalize hwq : wn.drewN _ = wq
  have HN1 := Aside0.mk (show wq.heap[w.heap.size]? = some zCells by rw [← hwq]; exact HN.out)
  have HT1 := Aside0.mk (show IsTw wq g tr wa 1 se (si + 1) by rw [← hwq]; exact HT.out)
  have HG1 := Aside0.mk (show w.grownBy wq (some g) by rw [← hwq]; exact only_drewN_ HG.out _)
  clear hwq n4 n1 HN HT HG
  have n0 := HT1.out.c0
  have n3 := HT1.out.c3
  go_wp2_with fail
  go_quiet (fail)
  generalize hwq : wq.drewN _ = wp
  have HN' := Aside0.mk (show wp.heap[w.heap.size]? = some zCells by rw [← hwq]; exact HN1.out)
  have HT' := Aside0.mk (show IsTw wp g tr wa 1 se (si + 1) by rw [← hwq]; exact HT1.out)
  have HG' := Aside0.mk (show w.grownBy wp (some g) by rw [← hwq]; exact only_drewN_ HG1.out _)
  clear hwq n0 n3
  go_wp2_with fail
  refine (twin_ask.calls _ g tr wa 1 se (si + 1) HT'.out hse0).mono ?_
  rintro e w3 ⟨rfl, hI, hg⟩
  have hz : w3.heap[w.heap.size]? = some zCells := (hg.block _ (blk_lt HN'.out) (fun e => hne (by injection e with e; exact e.symm))).trans HN'.out
  obtain ⟨⟨k0, k1, k2, k3, k4, k5, k6, k7, k8⟩, z0, z1, z2, z3, z4, z5, z6, z7, z8⟩ := zf hz
  have HI := Aside0.mk hI
  have HGG := Aside0.mk (HG'.out.trans hg)
  clear hI hg hz
  go_wp2_with fail
  refine bodyPost_ret (v := .tuple #[pduT, .bool true]) (by simp [results, Try.results76, go_sem, hu, k0, k1, k2, k3, k4, k5, k6, k7, k8]) rfl ⟨rfl, ?_, ?_⟩
  · repeat (with_reducible refine IsTw.far ?_ hne)
    exact HI.out
  · repeat (with_reducible refine grown_new ?_ (Nat.le_refl _))
    exact HGG.out
def heardI (b : Bool) : Int := if b = true then 3 else 1
/-- Is it the answer? -/
def ansB (t f : Int) (resp : Bool) (form kind : Int) (poll : Bool) : Bool := decide (form = 2) && (decide (kind = 2) && (resp && (poll && (decide (t = 0) && decide (f = 0)))))
set_option maxHeartbeats 4000000 in
set_option maxRecDepth 100000 in
theorem twin_Hear.deaf (w : World) (g : Nat) (tr wa st se si : Int) (h : IsTw w g tr wa st se si) (hst : st ≠ 1) (x0 x1 : Int) (x2 : Bool) (x3 x4 x5 x6 : Int) (x7 : Bool) (x8 : Value) :
    Calls Try.prog 71 #[.pointer (some ⟨g, 0, none⟩), .agg #[.int .i64 x0, .int .i64 x1, .bool x2, .int .i64 x3, .int .i64 x4, .int .i64 x5, .int .i64 x6, .bool x7, x8]] w fun e w' => e = .returned (.bool false) ∧ IsTw w' g tr wa st se si ∧ w.grownBy w' (some g) := by
  have hlt := h.lt
  have H0 := Aside0.mk h
  have hst' : (st != 1) = true := bne_iff_ne.mpr hst
  clear h
  go_enter Try.func71, Try.ntmps71
  go_wp2_with fail
  refine (twin_State.rd _ g tr wa st se si (H0.out.below (below_alloc (Below.refl _ _) _))).mono ?_
  rintro e w2 ⟨rfl, rfl⟩
  go_wp2_with fail
  go_ret
  exact ⟨rfl, H0.out.below (below_alloc (Below.refl _ _) _), grown_below (below_alloc (Below.refl _ _) _) _⟩
set_option maxHeartbeats 8000000 in
set_option maxRecDepth 100000 in
theorem twin_Hear.asks (k : Nat) (w : World) (g : Nat) (tr wa se si : Int) (h : IsTw w g tr wa 1 se si) (x0 x1 : Int) (x2 : Bool) (x3 x4 x5 x6 : Int) (x7 : Bool) (A : Option Addr) (c : Nat) (l : List Int) (m : Bool) (hr : Kd.C (Kd.int .u8) w A l.length l) (hc : l.length ≤ c) (hm : pdu_May.f k x0 x1 x2 x3 x4 x5 x6 x7 l = some m) :
    Calls Try.prog 71 #[.pointer (some ⟨g, 0, none⟩), .agg #[.int .i64 x0, .int .i64 x1, .bool x2, .int .i64 x3, .int .i64 x4, .int .i64 x5, .int .i64 x6, .bool x7, .slice A l.length c]] w fun e w' => e = .returned (.bool (m && ansB x0 x1 x2 x3 x4 x7)) ∧ IsTw w' g tr wa (heardI (m && ansB x0 x1 x2 x3 x4 x7)) se si ∧ w.grownBy w' (some g) := by
  have hlt := h.lt
  have hne : g ≠ w.heap.size := Nat.ne_of_lt h.lt
  have H0 := Aside0.mk h
  have HR := Aside0.mk hr
  have HC := Aside0.mk hc
  have HM := Aside0.mk hm
  generalize hb : (m && ansB x0 x1 x2 x3 x4 x7) = b
  have HBE := Aside0.mk hb
  clear h hr hc hm hb
  go_enter Try.func71, Try.ntmps71
  go_wp2_with fail
  refine (twin_State.rd _ g tr wa 1 se si (H0.out.below (below_alloc (Below.refl _ _) _))).mono ?_
  rintro e w2 ⟨rfl, rfl⟩
  go_wp2_with fail
  refine (pdu_May.calls k x0 x1 x2 x3 x4 x5 x6 x7 A c l m _ (Kd.C_alloc HR.out _) HC.out HM.out).mono ?_
  rintro e w3 ⟨rfl, hd⟩
  have hz3 : w3.heap[w.heap.size]? = some (.cells #[.int .i64 x0, .int .i64 x1, .bool x2, .int .i64 x3, .int .i64 x4, .int .i64 x5, .int .i64 x6, .bool x7, .slice A l.length c] 25 (0, 0)) := (hd.block _ (blk_lt (blk_new w _))).trans (blk_new w _)
  have HT3 := Aside0.mk ((H0.out.below (below_alloc (Below.refl _ _) (.cells #[.int .i64 x0, .int .i64 x1, .bool x2, .int .i64 x3, .int .i64 x4, .int .i64 x5, .int .i64 x6, .bool x7, .slice A l.length c] 25 (0, 0)))).below hd)
  have HG := Aside0.mk (grown_below (below_step (below_alloc (Below.refl w.heap.size w) (.cells #[.int .i64 x0, .int .i64 x1, .bool x2, .int .i64 x3, .int .i64 x4, .int .i64 x5, .int .i64 x6, .bool x7, .slice A l.length c] 25 (0, 0))) hd) (some g))
  have k0 : w3.cell? ⟨w.heap.size, 0, none⟩ = some (.int .i64 x0) := (blk_cell hz3 0).trans rfl
  have k1 : w3.cell? ⟨w.heap.size, 1, none⟩ = some (.int .i64 x1) := (blk_cell hz3 1).trans rfl
  have k2 : w3.cell? ⟨w.heap.size, 2, none⟩ = some (.bool x2) := (blk_cell hz3 2).trans rfl
  have k3 : w3.cell? ⟨w.heap.size, 3, none⟩ = some (.int .i64 x3) := (blk_cell hz3 3).trans rfl
  have k4 : w3.cell? ⟨w.heap.size, 4, none⟩ = some (.int .i64 x4) := (blk_cell hz3 4).trans rfl
  have k7 : w3.cell? ⟨w.heap.size, 7, none⟩ = some (.bool x7) := (blk_cell hz3 7).trans rfl
  clear hd hz3
  cases m with
  | false =>
    go_wp2_with fail
    go_ret
    have hbf : b = false := by rw [← HBE.out]; simp [ansB]
    subst hbf
    exact ⟨rfl, HT3.out, HG.out⟩
  | true =>
    by_cases h3 : x3 = 2
    case neg =>
      have e3 : (x3 != 2) = true := bne_iff_ne.mpr h3
      go_wp2_with fail
      go_ret
      have hbf : b = false := by rw [← HBE.out]; simp [ansB, h3]
      subst hbf
      exact ⟨rfl, HT3.out, HG.out⟩
    have e3 : (x3 != 2) = false := bne_eq_false_iff_eq.mpr h3
    by_cases h4 : x4 = 2
    case neg =>
      have e4 : (x4 != 2) = true := bne_iff_ne.mpr h4
      go_wp2_with fail
      go_ret
      have hbf : b = false := by rw [← HBE.out]; simp [ansB, h4]
      subst hbf
      exact ⟨rfl, HT3.out, HG.out⟩
    have e4 : (x4 != 2) = false := bne_eq_false_iff_eq.mpr h4
    cases x2 with
    | false =>
      go_wp2_with fail
      go_ret
      have hbf : b = false := by rw [← HBE.out]; simp [ansB]
      subst hbf
      exact ⟨rfl, HT3.out, HG.out⟩
    | true =>
      cases x7 with
      | false =>
        go_wp2_with fail
        go_ret
        have hbf : b = false := by rw [← HBE.out]; simp [ansB]
        subst hbf
        exact ⟨rfl, HT3.out, HG.out⟩
      | true =>
        by_cases h0 : x0 = 0
        case neg =>
          have e0 : (x0 != 0) = true := bne_iff_ne.mpr h0
          go_wp2_with fail
          go_ret
          have hbf : b = false := by rw [← HBE.out]; simp [ansB, h0]
          subst hbf
          exact ⟨rfl, HT3.out, HG.out⟩
        have e0 : (x0 != 0) = false := bne_eq_false_iff_eq.mpr h0
        by_cases h1 : x1 = 0
        case neg =>
          have e1 : (x1 != 0) = true := bne_iff_ne.mpr h1
          go_wp2_with fail
          go_ret
          have hbf : b = false := by rw [← HBE.out]; simp [ansB, h1]
          subst hbf
          exact ⟨rfl, HT3.out, HG.out⟩
        have e1 : (x1 != 0) = false := bne_eq_false_iff_eq.mpr h1
        have m2 := HT3.out.c2
        have mf2 := HT3.out.frozen 2
        have hbt : b = true := by rw [← HBE.out]; simp [ansB, h0, h1, h3, h4]
        subst hbt
        go_wp2_with fail
        go_ret
        exact ⟨rfl, HT3.out.put2 3, grown_own HG.out⟩
end Go.Proofs.Ytnmcoebjkfpmjaa.P
