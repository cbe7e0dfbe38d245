-- Laid by a program of this session (wip/print2).
import Derived.Test.YthdjdhcdhaicoaaPx0
import Derived.Test.YthdjdhcdhaicoaaPx9
import Derived.Test.YthdjdhcdhaicoaaPx16
import Derived.Test.YthdjdhcdhaicoaaPx17
import Derived.Test.YthdjdhcdhaicoaaPx18
import Derived.Test.YthdjdhcdhaicoaaPx19
import Derived.Test.YthdjdhcdhaicoaaLedR
namespace Go.Proofs.Ythdjdhcdhaicoaa.P
open Go.RowKit Go.Proofs.YthdjdhcdhaicoaaW.PrintWords Go.Proofs.YthdjdhcdhaicoaaW.PrintLast Go.Proofs.YthdjdhcdhaicoaaW.PrintMore
attribute [local go_sem] max2_int min2_int max_two min_two max_three min_three max_four min_four   -- for this text's walks alone
set_option linter.unusedVariables false
set_option linter.unusedSimpArgs false

attribute [local go_sem high] eqA37
/-! ### antiphonlaw26_LedgerEpochs: function 4 -/
mutual
def antiphonlaw26_LedgerEpochs.l0 : Nat → List (S46) → List (S47) → Int → Int → Int → Int → Int → Int → Int → Int → Int → Option (Bool)
 | 0, _, _, _, _, _, _, _, _, _, _, _ => none
 | k + 1, x0, x4, x5, x6, x7, x109000, x109001, x109002, x109003, x109004, x109005 => if x7 < (x0.length : Int) then (if 0 ≤ x7 then (if (((rd_T46 x0 x7).f2.f4).length : Int) > 100 then (some true) else (if ((rd_T46 x0 x7).f2.f0) = 9 then (if ((rd_T46 x0 x7).f2.f1) = 4 then (if ((rd_T46 x0 x7).f2.f2) = 8 then (antiphonlaw26_LedgerEpochs.j1 k x0 x4 x5 x6 x7 (!(((rd_T46 x0 x7).f2.f3.f0) == x109000) || (!(((rd_T46 x0 x7).f2.f3.f1) == x109001) || (!(((rd_T46 x0 x7).f2.f3.f2) == x109002) || (!(((rd_T46 x0 x7).f2.f3.f3) == x109003) || (!(((rd_T46 x0 x7).f2.f3.f4) == x109004) || (!(((rd_T46 x0 x7).f2.f3.f5) == x109005))))))) x109000 x109001 x109002 x109003 x109004 x109005 ((rd_T46 x0 x7).f2.f0) ((rd_T46 x0 x7).f2.f1) ((rd_T46 x0 x7).f2.f2) ((rd_T46 x0 x7).f2.f3.f0) ((rd_T46 x0 x7).f2.f3.f1) ((rd_T46 x0 x7).f2.f3.f2) ((rd_T46 x0 x7).f2.f3.f3) ((rd_T46 x0 x7).f2.f3.f4) ((rd_T46 x0 x7).f2.f3.f5) ((rd_T46 x0 x7).f2.f4) ((rd_T46 x0 x7).f2.f5)) else (antiphonlaw26_LedgerEpochs.j1 k x0 x4 x5 x6 x7 true x109000 x109001 x109002 x109003 x109004 x109005 ((rd_T46 x0 x7).f2.f0) ((rd_T46 x0 x7).f2.f1) ((rd_T46 x0 x7).f2.f2) ((rd_T46 x0 x7).f2.f3.f0) ((rd_T46 x0 x7).f2.f3.f1) ((rd_T46 x0 x7).f2.f3.f2) ((rd_T46 x0 x7).f2.f3.f3) ((rd_T46 x0 x7).f2.f3.f4) ((rd_T46 x0 x7).f2.f3.f5) ((rd_T46 x0 x7).f2.f4) ((rd_T46 x0 x7).f2.f5))) else (antiphonlaw26_LedgerEpochs.j1 k x0 x4 x5 x6 x7 true x109000 x109001 x109002 x109003 x109004 x109005 ((rd_T46 x0 x7).f2.f0) ((rd_T46 x0 x7).f2.f1) ((rd_T46 x0 x7).f2.f2) ((rd_T46 x0 x7).f2.f3.f0) ((rd_T46 x0 x7).f2.f3.f1) ((rd_T46 x0 x7).f2.f3.f2) ((rd_T46 x0 x7).f2.f3.f3) ((rd_T46 x0 x7).f2.f3.f4) ((rd_T46 x0 x7).f2.f3.f5) ((rd_T46 x0 x7).f2.f4) ((rd_T46 x0 x7).f2.f5))) else (antiphonlaw26_LedgerEpochs.j1 k x0 x4 x5 x6 x7 true x109000 x109001 x109002 x109003 x109004 x109005 ((rd_T46 x0 x7).f2.f0) ((rd_T46 x0 x7).f2.f1) ((rd_T46 x0 x7).f2.f2) ((rd_T46 x0 x7).f2.f3.f0) ((rd_T46 x0 x7).f2.f3.f1) ((rd_T46 x0 x7).f2.f3.f2) ((rd_T46 x0 x7).f2.f3.f3) ((rd_T46 x0 x7).f2.f3.f4) ((rd_T46 x0 x7).f2.f3.f5) ((rd_T46 x0 x7).f2.f4) ((rd_T46 x0 x7).f2.f5)))) else (none)) else (if (x4.length : Int) = 0 then (if x6 = 0 then (some true) else (if x5 = (wrap64 ((x4.length : Int) - 1)) then (if 0 ≤ x5 then (if x5 < (x4.length : Int) then (some (x6 == (((rd_T47 x4 x5).f1).length : Int))) else (none)) else (none)) else (none))) else (if x5 = (wrap64 ((x4.length : Int) - 1)) then (if 0 ≤ x5 then (if x5 < (x4.length : Int) then (some (x6 == (((rd_T47 x4 x5).f1).length : Int))) else (none)) else (none)) else (none)))
def antiphonlaw26_LedgerEpochs.j1 : Nat → List (S46) → List (S47) → Int → Int → Int → Bool → Int → Int → Int → Int → Int → Int → Int → Int → Int → Int → Int → Int → Int → Int → Int → List Int → Int → Option (Bool)
 | 0, _, _, _, _, _, _, _, _, _, _, _, _, _, _, _, _, _, _, _, _, _, _, _ => none
 | k + 1, x0, x4, x5, x6, x7, x52, x109000, x109001, x109002, x109003, x109004, x109005, x119000, x119001, x119002, x119003, x119004, x119005, x119006, x119007, x119008, x119009, x119010 => if x52 = true then (antiphonlaw26_LedgerEpochs.l0 k x0 x4 x5 x6 (wrap64 (x7 + 1)) x109000 x109001 x109002 x109003 x109004 x109005) else (if x5 < (x4.length : Int) then (if 0 ≤ x5 then (antiphonlaw26_LedgerEpochs.j2 k x0 x4 x5 x6 x7 (x6 == (((rd_T47 x4 x5).f1).length : Int)) x109000 x109001 x109002 x109003 x109004 x109005 x119000 x119001 x119002 x119003 x119004 x119005 x119006 x119007 x119008 x119009 x119010) else (none)) else (antiphonlaw26_LedgerEpochs.j2 k x0 x4 x5 x6 x7 false x109000 x109001 x109002 x109003 x109004 x109005 x119000 x119001 x119002 x119003 x119004 x119005 x119006 x119007 x119008 x119009 x119010))
def antiphonlaw26_LedgerEpochs.j2 : Nat → List (S46) → List (S47) → Int → Int → Int → Bool → Int → Int → Int → Int → Int → Int → Int → Int → Int → Int → Int → Int → Int → Int → Int → List Int → Int → Option (Bool)
 | 0, _, _, _, _, _, _, _, _, _, _, _, _, _, _, _, _, _, _, _, _, _, _, _ => none
 | k + 1, x0, x4, x5, x6, x7, x66, x109000, x109001, x109002, x109003, x109004, x109005, x119000, x119001, x119002, x119003, x119004, x119005, x119006, x119007, x119008, x119009, x119010 => if x66 = true then (if (wrap64 (x5 + 1)) < (x4.length : Int) then (if 0 ≤ (wrap64 (x5 + 1)) then (if 0 ≤ (wrap64 ((wrap64 (x5 + 1)) - 1)) then (if (wrap64 ((wrap64 (x5 + 1)) - 1)) < (x4.length : Int) then (antiphonlaw26_LedgerEpochs.j3 k x0 x4 (wrap64 (x5 + 1)) 0 x7 (((rd_T47 x4 (wrap64 (x5 + 1))).f0) == ((rd_T47 x4 (wrap64 ((wrap64 (x5 + 1)) - 1))).f0)) x109000 x109001 x109002 x109003 x109004 x109005 x119000 x119001 x119002 x119003 x119004 x119005 x119006 x119007 x119008 x119009 x119010) else (none)) else (none)) else (none)) else (antiphonlaw26_LedgerEpochs.j3 k x0 x4 (wrap64 (x5 + 1)) 0 x7 false x109000 x109001 x109002 x109003 x109004 x109005 x119000 x119001 x119002 x119003 x119004 x119005 x119006 x119007 x119008 x119009 x119010)) else (if x5 ≥ (x4.length : Int) then (none) else (if 0 ≤ x5 then (if x5 < (x4.length : Int) then (if 0 ≤ x7 then (if x7 < (x0.length : Int) then (if ((rd_T47 x4 x5).f0) = ((rd_T46 x0 x7).f1) then (if x6 ≥ (((rd_T47 x4 x5).f1).length : Int) then (none) else (if 0 ≤ x6 then (if x6 < (((rd_T47 x4 x5).f1).length : Int) then ((antiphonref1_Same.f k (rd_L1 ((rd_T47 x4 x5).f1) x6) x119009).bind fun t133 => (if t133 = true then (antiphonlaw26_LedgerEpochs.l0 k x0 x4 x5 (wrap64 (x6 + 1)) (wrap64 (x7 + 1)) x109000 x109001 x109002 x109003 x109004 x109005) else (none))) else (none)) else (none))) else (none)) else (none)) else (none)) else (none)) else (none)))
def antiphonlaw26_LedgerEpochs.j3 : Nat → List (S46) → List (S47) → Int → Int → Int → Bool → Int → Int → Int → Int → Int → Int → Int → Int → Int → Int → Int → Int → Int → Int → Int → List Int → Int → Option (Bool)
 | 0, _, _, _, _, _, _, _, _, _, _, _, _, _, _, _, _, _, _, _, _, _, _, _ => none
 | k + 1, x0, x4, x5, x6, x7, x86, x109000, x109001, x109002, x109003, x109004, x109005, x119000, x119001, x119002, x119003, x119004, x119005, x119006, x119007, x119008, x119009, x119010 => if x86 = true then (none) else (if x5 ≥ (x4.length : Int) then (none) else (if 0 ≤ x5 then (if x5 < (x4.length : Int) then (if 0 ≤ x7 then (if x7 < (x0.length : Int) then (if ((rd_T47 x4 x5).f0) = ((rd_T46 x0 x7).f1) then (if x6 ≥ (((rd_T47 x4 x5).f1).length : Int) then (none) else (if 0 ≤ x6 then (if x6 < (((rd_T47 x4 x5).f1).length : Int) then ((antiphonref1_Same.f k (rd_L1 ((rd_T47 x4 x5).f1) x6) x119009).bind fun t127 => (if t127 = true then (antiphonlaw26_LedgerEpochs.l0 k x0 x4 x5 (wrap64 (x6 + 1)) (wrap64 (x7 + 1)) x109000 x109001 x109002 x109003 x109004 x109005) else (none))) else (none)) else (none))) else (none)) else (none)) else (none)) else (none)) else (none)))
end
def antiphonlaw26_LedgerEpochs.f (k : Nat) (l0 : List (S46)) : Option (Bool) := (antiphonlaw26_awake.f k).bind fun t101 => (if t101 = true then (if (l0.length : Int) > 100 then (some true) else ((antiphonref1_Station.f 1).bind fun bt102 => ((antiphonlaw26_rows.f k l0).bind fun t109 => ((ledger_Runs.f t109 4 8 bt102.1 bt102.2.1 bt102.2.2.1 bt102.2.2.2.1 bt102.2.2.2.2.1 bt102.2.2.2.2.2).bind fun t112 => (antiphonlaw26_LedgerEpochs.l0 k l0 t112 0 0 0 bt102.1 bt102.2.1 bt102.2.2.1 bt102.2.2.2.1 bt102.2.2.2.2.1 bt102.2.2.2.2.2))))) else (none))
theorem antiphonlaw26_LedgerEpochs.mono_l : ∀ k, (∀ y0 y1 y2 y3 y4 y5 y6 y7 y8 y9 y10, LeO (antiphonlaw26_LedgerEpochs.l0 k y0 y1 y2 y3 y4 y5 y6 y7 y8 y9 y10) (antiphonlaw26_LedgerEpochs.l0 (k + 1) y0 y1 y2 y3 y4 y5 y6 y7 y8 y9 y10)) ∧ (∀ y0 y1 y2 y3 y4 y5 y6 y7 y8 y9 y10 y11 y12 y13 y14 y15 y16 y17 y18 y19 y20 y21 y22, LeO (antiphonlaw26_LedgerEpochs.j1 k y0 y1 y2 y3 y4 y5 y6 y7 y8 y9 y10 y11 y12 y13 y14 y15 y16 y17 y18 y19 y20 y21 y22) (antiphonlaw26_LedgerEpochs.j1 (k + 1) y0 y1 y2 y3 y4 y5 y6 y7 y8 y9 y10 y11 y12 y13 y14 y15 y16 y17 y18 y19 y20 y21 y22)) ∧ (∀ y0 y1 y2 y3 y4 y5 y6 y7 y8 y9 y10 y11 y12 y13 y14 y15 y16 y17 y18 y19 y20 y21 y22, LeO (antiphonlaw26_LedgerEpochs.j2 k y0 y1 y2 y3 y4 y5 y6 y7 y8 y9 y10 y11 y12 y13 y14 y15 y16 y17 y18 y19 y20 y21 y22) (antiphonlaw26_LedgerEpochs.j2 (k + 1) y0 y1 y2 y3 y4 y5 y6 y7 y8 y9 y10 y11 y12 y13 y14 y15 y16 y17 y18 y19 y20 y21 y22)) ∧ (∀ y0 y1 y2 y3 y4 y5 y6 y7 y8 y9 y10 y11 y12 y13 y14 y15 y16 y17 y18 y19 y20 y21 y22, LeO (antiphonlaw26_LedgerEpochs.j3 k y0 y1 y2 y3 y4 y5 y6 y7 y8 y9 y10 y11 y12 y13 y14 y15 y16 y17 y18 y19 y20 y21 y22) (antiphonlaw26_LedgerEpochs.j3 (k + 1) y0 y1 y2 y3 y4 y5 y6 y7 y8 y9 y10 y11 y12 y13 y14 y15 y16 y17 y18 y19 y20 y21 y22))
 | 0 => ⟨fun _ _ _ _ _ _ _ _ _ _ _ r h => by simp [antiphonlaw26_LedgerEpochs.l0] at h, fun _ _ _ _ _ _ _ _ _ _ _ _ _ _ _ _ _ _ _ _ _ _ _ r h => by simp [antiphonlaw26_LedgerEpochs.j1] at h, fun _ _ _ _ _ _ _ _ _ _ _ _ _ _ _ _ _ _ _ _ _ _ _ r h => by simp [antiphonlaw26_LedgerEpochs.j2] at h, fun _ _ _ _ _ _ _ _ _ _ _ _ _ _ _ _ _ _ _ _ _ _ _ r h => by simp [antiphonlaw26_LedgerEpochs.j3] at h⟩
 | k + 1 => by
  obtain ⟨ih0, ih1, ih2, ih3⟩ := antiphonlaw26_LedgerEpochs.mono_l k
  refine ⟨?_, ?_, ?_, ?_⟩
  ·intro y0 y1 y2 y3 y4 y5 y6 y7 y8 y9 y10
   unfold antiphonlaw26_LedgerEpochs.l0
   repeat' first
   | (with_reducible exact ih0 _ _ _ _ _ _ _ _ _ _ _)
   | (with_reducible exact ih1 _ _ _ _ _ _ _ _ _ _ _ _ _ _ _ _ _ _ _ _ _ _ _)
   | (with_reducible exact ih2 _ _ _ _ _ _ _ _ _ _ _ _ _ _ _ _ _ _ _ _ _ _ _)
   | (with_reducible exact ih3 _ _ _ _ _ _ _ _ _ _ _ _ _ _ _ _ _ _ _ _ _ _ _)
   | (with_reducible exact antiphonlaw26_awake.mono _)
   | (with_reducible exact antiphonlaw26_rows.mono _ _)
   | (with_reducible exact antiphonref1_Same.mono _ _ _)
   | (with_reducible exact LeO.refl _)
   | (with_reducible exact LeO.none _)
   | (with_reducible refine LeO.ite ?_ ?_)
   | (with_reducible refine LeO.bind ?_ (fun _ => ?_))
   | exact ih0 _ _ _ _ _ _ _ _ _ _ _
   | exact ih1 _ _ _ _ _ _ _ _ _ _ _ _ _ _ _ _ _ _ _ _ _ _ _
   | exact ih2 _ _ _ _ _ _ _ _ _ _ _ _ _ _ _ _ _ _ _ _ _ _ _
   | exact ih3 _ _ _ _ _ _ _ _ _ _ _ _ _ _ _ _ _ _ _ _ _ _ _
   | exact antiphonlaw26_awake.mono _
   | exact antiphonlaw26_rows.mono _ _
   | exact antiphonref1_Same.mono _ _ _
   | exact LeO.none _
   | refine LeO.ite ?_ ?_
   | refine LeO.bind ?_ (fun _ => ?_)
  ·intro y0 y1 y2 y3 y4 y5 y6 y7 y8 y9 y10 y11 y12 y13 y14 y15 y16 y17 y18 y19 y20 y21 y22
   unfold antiphonlaw26_LedgerEpochs.j1
   repeat' first
   | (with_reducible exact ih0 _ _ _ _ _ _ _ _ _ _ _)
   | (with_reducible exact ih1 _ _ _ _ _ _ _ _ _ _ _ _ _ _ _ _ _ _ _ _ _ _ _)
   | (with_reducible exact ih2 _ _ _ _ _ _ _ _ _ _ _ _ _ _ _ _ _ _ _ _ _ _ _)
   | (with_reducible exact ih3 _ _ _ _ _ _ _ _ _ _ _ _ _ _ _ _ _ _ _ _ _ _ _)
   | (with_reducible exact antiphonlaw26_awake.mono _)
   | (with_reducible exact antiphonlaw26_rows.mono _ _)
   | (with_reducible exact antiphonref1_Same.mono _ _ _)
   | (with_reducible exact LeO.refl _)
   | (with_reducible exact LeO.none _)
   | (with_reducible refine LeO.ite ?_ ?_)
   | (with_reducible refine LeO.bind ?_ (fun _ => ?_))
   | exact ih0 _ _ _ _ _ _ _ _ _ _ _
   | exact ih1 _ _ _ _ _ _ _ _ _ _ _ _ _ _ _ _ _ _ _ _ _ _ _
   | exact ih2 _ _ _ _ _ _ _ _ _ _ _ _ _ _ _ _ _ _ _ _ _ _ _
   | exact ih3 _ _ _ _ _ _ _ _ _ _ _ _ _ _ _ _ _ _ _ _ _ _ _
   | exact antiphonlaw26_awake.mono _
   | exact antiphonlaw26_rows.mono _ _
   | exact antiphonref1_Same.mono _ _ _
   | exact LeO.none _
   | refine LeO.ite ?_ ?_
   | refine LeO.bind ?_ (fun _ => ?_)
  ·intro y0 y1 y2 y3 y4 y5 y6 y7 y8 y9 y10 y11 y12 y13 y14 y15 y16 y17 y18 y19 y20 y21 y22
   unfold antiphonlaw26_LedgerEpochs.j2
   repeat' first
   | (with_reducible exact ih0 _ _ _ _ _ _ _ _ _ _ _)
   | (with_reducible exact ih1 _ _ _ _ _ _ _ _ _ _ _ _ _ _ _ _ _ _ _ _ _ _ _)
   | (with_reducible exact ih2 _ _ _ _ _ _ _ _ _ _ _ _ _ _ _ _ _ _ _ _ _ _ _)
   | (with_reducible exact ih3 _ _ _ _ _ _ _ _ _ _ _ _ _ _ _ _ _ _ _ _ _ _ _)
   | (with_reducible exact antiphonlaw26_awake.mono _)
   | (with_reducible exact antiphonlaw26_rows.mono _ _)
   | (with_reducible exact antiphonref1_Same.mono _ _ _)
   | (with_reducible exact LeO.refl _)
   | (with_reducible exact LeO.none _)
   | (with_reducible refine LeO.ite ?_ ?_)
   | (with_reducible refine LeO.bind ?_ (fun _ => ?_))
   | exact ih0 _ _ _ _ _ _ _ _ _ _ _
   | exact ih1 _ _ _ _ _ _ _ _ _ _ _ _ _ _ _ _ _ _ _ _ _ _ _
   | exact ih2 _ _ _ _ _ _ _ _ _ _ _ _ _ _ _ _ _ _ _ _ _ _ _
   | exact ih3 _ _ _ _ _ _ _ _ _ _ _ _ _ _ _ _ _ _ _ _ _ _ _
   | exact antiphonlaw26_awake.mono _
   | exact antiphonlaw26_rows.mono _ _
   | exact antiphonref1_Same.mono _ _ _
   | exact LeO.none _
   | refine LeO.ite ?_ ?_
   | refine LeO.bind ?_ (fun _ => ?_)
  ·intro y0 y1 y2 y3 y4 y5 y6 y7 y8 y9 y10 y11 y12 y13 y14 y15 y16 y17 y18 y19 y20 y21 y22
   unfold antiphonlaw26_LedgerEpochs.j3
   repeat' first
   | (with_reducible exact ih0 _ _ _ _ _ _ _ _ _ _ _)
   | (with_reducible exact ih1 _ _ _ _ _ _ _ _ _ _ _ _ _ _ _ _ _ _ _ _ _ _ _)
   | (with_reducible exact ih2 _ _ _ _ _ _ _ _ _ _ _ _ _ _ _ _ _ _ _ _ _ _ _)
   | (with_reducible exact ih3 _ _ _ _ _ _ _ _ _ _ _ _ _ _ _ _ _ _ _ _ _ _ _)
   | (with_reducible exact antiphonlaw26_awake.mono _)
   | (with_reducible exact antiphonlaw26_rows.mono _ _)
   | (with_reducible exact antiphonref1_Same.mono _ _ _)
   | (with_reducible exact LeO.refl _)
   | (with_reducible exact LeO.none _)
   | (with_reducible refine LeO.ite ?_ ?_)
   | (with_reducible refine LeO.bind ?_ (fun _ => ?_))
   | exact ih0 _ _ _ _ _ _ _ _ _ _ _
   | exact ih1 _ _ _ _ _ _ _ _ _ _ _ _ _ _ _ _ _ _ _ _ _ _ _
   | exact ih2 _ _ _ _ _ _ _ _ _ _ _ _ _ _ _ _ _ _ _ _ _ _ _
   | exact ih3 _ _ _ _ _ _ _ _ _ _ _ _ _ _ _ _ _ _ _ _ _ _ _
   | exact antiphonlaw26_awake.mono _
   | exact antiphonlaw26_rows.mono _ _
   | exact antiphonref1_Same.mono _ _ _
   | exact LeO.none _
   | refine LeO.ite ?_ ?_
   | refine LeO.bind ?_ (fun _ => ?_)
theorem antiphonlaw26_LedgerEpochs.mono : ∀ a0 k, LeO (antiphonlaw26_LedgerEpochs.f k a0) (antiphonlaw26_LedgerEpochs.f (k + 1) a0) := by
 intro a0 k
 obtain ⟨ih0, ih1, ih2, ih3⟩ := antiphonlaw26_LedgerEpochs.mono_l k
 unfold antiphonlaw26_LedgerEpochs.f
 repeat' first
   | (with_reducible exact ih0 _ _ _ _ _ _ _ _ _ _ _)
   | (with_reducible exact ih1 _ _ _ _ _ _ _ _ _ _ _ _ _ _ _ _ _ _ _ _ _ _ _)
   | (with_reducible exact ih2 _ _ _ _ _ _ _ _ _ _ _ _ _ _ _ _ _ _ _ _ _ _ _)
   | (with_reducible exact ih3 _ _ _ _ _ _ _ _ _ _ _ _ _ _ _ _ _ _ _ _ _ _ _)
   | (with_reducible exact antiphonlaw26_awake.mono _)
   | (with_reducible exact antiphonlaw26_rows.mono _ _)
   | (with_reducible exact antiphonref1_Same.mono _ _ _)
   | (with_reducible exact LeO.refl _)
   | (with_reducible exact LeO.none _)
   | (with_reducible refine LeO.ite ?_ ?_)
   | (with_reducible refine LeO.bind ?_ (fun _ => ?_))
   | exact ih0 _ _ _ _ _ _ _ _ _ _ _
   | exact ih1 _ _ _ _ _ _ _ _ _ _ _ _ _ _ _ _ _ _ _ _ _ _ _
   | exact ih2 _ _ _ _ _ _ _ _ _ _ _ _ _ _ _ _ _ _ _ _ _ _ _
   | exact ih3 _ _ _ _ _ _ _ _ _ _ _ _ _ _ _ _ _ _ _ _ _ _ _
   | exact antiphonlaw26_awake.mono _
   | exact antiphonlaw26_rows.mono _ _
   | exact antiphonref1_Same.mono _ _ _
   | exact LeO.none _
   | refine LeO.ite ?_ ?_
   | refine LeO.bind ?_ (fun _ => ?_)
def antiphonlaw26_LedgerEpochs.T18 : Bool × List (List Nat × List Nat) := (true, [([], []), ([], []), ([1], [1]), ([0, 2], [0, 2]), ([3], [3]), ([4], [4]), ([4], [4]), ([5, 6, 4], [4, 5, 6]), ([7, 4], [4, 7]), ([8, 4], [4, 8]), ([4], [4]), ([4], [4]), ([11, 4], [4, 11]), ([10, 12, 4], [4, 10, 12]), ([13, 4], [4, 13]), ([14, 4], [4, 14]), ([9, 15, 4], [4, 9, 15]), ([4, 16], [4, 16])])
def antiphonlaw26_LedgerEpochs.B18 : List Nat := [0, 0, 2, 7, 15, 31, 31, 127, 255, 511, 31, 31, 2079, 7199, 15391, 31775, 65535, 131071]
theorem antiphonlaw26_LedgerEpochs.tab18 : rtab .any (opsOf Try.f4 18) = antiphonlaw26_LedgerEpochs.T18 := by kernel_rfl
theorem antiphonlaw26_LedgerEpochs.bits18 : waitsOk antiphonlaw26_LedgerEpochs.T18.2 antiphonlaw26_LedgerEpochs.B18 = true := by kernel_rfl
def antiphonlaw26_LedgerEpochs.T20 : Bool × List (List Nat × List Nat) := (true, [([], []), ([], []), ([1], [1]), ([0, 2], [0, 2]), ([3], [3]), ([4], [4]), ([4], [4]), ([5, 6, 4], [4, 5, 6]), ([7, 4], [4, 7]), ([8, 4], [4, 8]), ([4], [4]), ([4], [4]), ([10, 11, 4], [4, 10, 11]), ([12, 4], [4, 12]), ([13, 4], [4, 13]), ([9, 14, 4], [4, 9, 14]), ([4, 15], [4, 15]), ([16, 4], [16]), ([17], [17]), ([17], [17]), ([17], [17]), ([19, 20, 17], [17, 19, 20]), ([21, 17], [17, 21]), ([22, 17], [17, 22]), ([23, 17], [17, 23]), ([18, 24, 17], [17, 18, 24]), ([17, 25], [17, 25]), ([26, 17], [26]), ([27], [27]), ([27], [27]), ([28, 29, 27], [27, 28, 29]), ([30, 27], [27, 30]), ([31, 27], [27, 31]), ([27], [27]), ([32, 33, 27], [27, 32, 33]), ([34, 27], [27, 34]), ([27], [27]), ([36, 27], [27, 36]), ([35, 37, 27, 27], [27, 35, 37]), ([38, 27], [27, 38]), ([27, 39], [27, 39])])
def antiphonlaw26_LedgerEpochs.B20 : List Nat := [0, 0, 2, 7, 15, 31, 31, 127, 255, 511, 31, 31, 3103, 7199, 15391, 32767, 65535, 131071, 262143, 262143, 262143, 1835007, 3932159, 8126463, 16515071, 33554431, 67108863, 134217727, 268435455, 268435455, 1073741823, 2147483647, 4294967295, 268435455, 17179869183, 34359738367, 268435455, 68987912191, 274877906943, 549755813887, 1099511627775]
theorem antiphonlaw26_LedgerEpochs.tab20 : rtab .any (opsOf Try.f4 20) = antiphonlaw26_LedgerEpochs.T20 := by kernel_rfl
theorem antiphonlaw26_LedgerEpochs.bits20 : waitsOk antiphonlaw26_LedgerEpochs.T20.2 antiphonlaw26_LedgerEpochs.B20 = true := by kernel_rfl
set_option maxHeartbeats 8000000 in
set_option maxRecDepth 100000 in
theorem antiphonlaw26_LedgerEpochs.calls (k : Nat) (A0 : Option Addr) (c0 : Nat) (l0 : List (S46)) (r : Bool) (w : World) (hr0 : Kd.C k46 w A0 l0.length l0) (hc0 : l0.length ≤ c0) (h : antiphonlaw26_LedgerEpochs.f k l0 = some r) :
  Calls Try.prog 4 #[.slice A0 l0.length c0] w fun e w' => e = .returned (.bool r) ∧ Below w.heap.size w w' := by
 have hu37 := Try.underlying37
 have hu44 := Try.underlying44
 have HR0 := Aside0.mk hr0
 have HC0 := Aside0.mk hc0
 clear hr0 hc0
 have HB := Aside0.mk (Below.refl w.heap.size w)
 have H : ((antiphonlaw26_awake.f k).bind fun t101 => (if t101 = true then (if (l0.length : Int) > 100 then (some true) else ((antiphonref1_Station.f 1).bind fun bt102 => ((antiphonlaw26_rows.f k l0).bind fun t109 => ((ledger_Runs.f t109 4 8 bt102.1 bt102.2.1 bt102.2.2.1 bt102.2.2.2.1 bt102.2.2.2.2.1 bt102.2.2.2.2.2).bind fun t112 => (antiphonlaw26_LedgerEpochs.l0 k l0 t112 0 0 0 bt102.1 bt102.2.1 bt102.2.2.1 bt102.2.2.2.1 bt102.2.2.2.2.1 bt102.2.2.2.2.2))))) else (none))) = some r := h
 clear h
 replace H := Option.bind_eq_some_iff.mp H
 obtain ⟨t101, A20, H⟩ := H
 replace H : (if t101 = true then (if (l0.length : Int) > 100 then (some true) else ((antiphonref1_Station.f 1).bind fun bt102 => ((antiphonlaw26_rows.f k l0).bind fun t109 => ((ledger_Runs.f t109 4 8 bt102.1 bt102.2.1 bt102.2.2.1 bt102.2.2.2.1 bt102.2.2.2.2.1 bt102.2.2.2.2.2).bind fun t112 => (antiphonlaw26_LedgerEpochs.l0 k l0 t112 0 0 0 bt102.1 bt102.2.1 bt102.2.2.1 bt102.2.2.2.1 bt102.2.2.2.2.1 bt102.2.2.2.2.2))))) else (none)) = some r := H
 have A2 := Aside0.mk A20
 clear A20
 by_cases c3 : t101 = true
 ·subst c3
  have H1 : (if (l0.length : Int) > 100 then (some true) else ((antiphonref1_Station.f 1).bind fun bt102 => ((antiphonlaw26_rows.f k l0).bind fun t109 => ((ledger_Runs.f t109 4 8 bt102.1 bt102.2.1 bt102.2.2.1 bt102.2.2.2.1 bt102.2.2.2.2.1 bt102.2.2.2.2.2).bind fun t112 => (antiphonlaw26_LedgerEpochs.l0 k l0 t112 0 0 0 bt102.1 bt102.2.1 bt102.2.2.1 bt102.2.2.2.1 bt102.2.2.2.2.1 bt102.2.2.2.2.2))))) = some r := by rw [if_pos rfl] at H; exact H
  clear H
  have H := H1
  clear H1
  by_cases c4 : (l0.length : Int) > 100
  ·rw [if_pos c4] at H
   have c4b0 : decide (100 < (l0.length : Int)) = true := decide_eq_true c4
   have c4b1 : decide (100 < l0.length) = true := decide_eq_true (by omega)
   clear c4
   obtain rfl := Option.some.inj H
   go_enter Try.func4, Try.ntmps4
   go_wp2_with (first | ((with_reducible refine gate_callee (f := 8) rfl ?_); refine goesL_ (some 9) rfl rfl Try.func8 (by kernel_rfl) rfl #[] rfl (by (try simp only [List.map_toArray, List.map_cons, List.map_nil]); first | done | rfl | (simp only [List.length_drop, List.length_take]; rfl)) ?_; (with_reducible refine (antiphonlaw26_awake.calls k  true _ A2.out).mono ?_); rintro e w5 ⟨rfl, hb⟩; refine ⟨_, rfl, ?_⟩; have n0_ := Aside0.mk (below_step (by repeat (first | (with_reducible first | exact HB.out | apply below_alloc | apply pw_below_drewN | apply below_drew1) | exact HB.out)) hb); clear HB; have HB := n0_; clear n0_; (try clear hb); (try clear hb2); (try clear hk); (try clear hi)))
   go_ret
   exact ⟨by first | rfl | (simp [errW_none, errW_some] <;> rfl) | (simp [*, errW_none, errW_some] <;> rfl), by repeat (first | (with_reducible first | exact HB.out | apply below_alloc | apply pw_below_drewN | apply below_drew1) | exact HB.out)⟩
  ·rw [if_neg c4] at H
   have c4b0 : decide (100 < (l0.length : Int)) = false := decide_eq_false c4
   have c4b1 : decide (100 < l0.length) = false := decide_eq_false (by omega)
   clear c4
   replace H := Option.bind_eq_some_iff.mp H
   obtain ⟨⟨t102, t103, t104, t105, t106, t107⟩, A60, H⟩ := H
   replace H : ((antiphonlaw26_rows.f k l0).bind fun t109 => ((ledger_Runs.f t109 4 8 t102 t103 t104 t105 t106 t107).bind fun t112 => (antiphonlaw26_LedgerEpochs.l0 k l0 t112 0 0 0 t102 t103 t104 t105 t106 t107))) = some r := H
   have A6 := Aside0.mk A60
   clear A60
   replace H := Option.bind_eq_some_iff.mp H
   obtain ⟨t109, A70, H⟩ := H
   replace H : ((ledger_Runs.f t109 4 8 t102 t103 t104 t105 t106 t107).bind fun t112 => (antiphonlaw26_LedgerEpochs.l0 k l0 t112 0 0 0 t102 t103 t104 t105 t106 t107)) = some r := H
   have A7 := Aside0.mk A70
   clear A70
   replace H := Option.bind_eq_some_iff.mp H
   obtain ⟨t112, A80, H⟩ := H
   replace H : (antiphonlaw26_LedgerEpochs.l0 k l0 t112 0 0 0 t102 t103 t104 t105 t106 t107) = some r := H
   have A8 := Aside0.mk A80
   clear A80
   have H' := Aside0.mk H
   clear H
   go_enter Try.func4, Try.ntmps4
   try go_wp2_with (first | ((with_reducible refine gate_callee (f := 8) rfl ?_); refine goesL_ (some 9) rfl rfl Try.func8 (by kernel_rfl) rfl #[] rfl (by (try simp only [List.map_toArray, List.map_cons, List.map_nil]); first | done | rfl | (simp only [List.length_drop, List.length_take]; rfl)) ?_; (with_reducible refine (antiphonlaw26_awake.calls k  true _ A2.out).mono ?_); rintro e w9 ⟨rfl, hb⟩; refine ⟨_, rfl, ?_⟩; have n0_ := Aside0.mk (below_step (by repeat (first | (with_reducible first | exact HB.out | apply below_alloc | apply pw_below_drewN | apply below_drew1) | exact HB.out)) hb); clear HB; have HB := n0_; clear n0_; (try clear hb); (try clear hb2); (try clear hk); (try clear hi)) | ((with_reducible refine gate_callee (f := 15) rfl ?_); refine goesL_ (some 14) rfl rfl Try.func15 (by kernel_rfl) rfl #[.int .i64 1] rfl (by (try simp only [List.map_toArray, List.map_cons, List.map_nil]); first | done | rfl | (simp only [List.length_drop, List.length_take]; rfl)) ?_; (with_reducible refine (antiphonref1_Station.calls 1 t102 t103 t104 t105 t106 t107 _ A6.out).mono ?_); rintro e w10 ⟨rfl, hb⟩; refine ⟨_, rfl, ?_⟩; have n0_ := Aside0.mk (below_step (by repeat (first | (with_reducible first | exact HB.out | apply below_alloc | apply pw_below_drewN | apply below_drew1) | exact HB.out)) hb); clear HB; have HB := n0_; clear n0_; (try clear hb); (try clear hb2); (try clear hk); (try clear hi)) | ((with_reducible refine gate_dst (N := 3) rfl ?_); (try (refine gate_guard (by rfl) ?_; dsimp only)); refine box_event ?hg (N := 3) ?hd (cs := #[.int .u8 0, .int .u8 0, .int .u8 0, .int .u8 0, .int .u8 0, .int .u8 0]) (t := 37) ?hr ?_; (case hd => rfl); (case hg => rfl); (case hr => first | (go_simp; done) | (go_simp; rfl)); intro gb108 hg w11 hbox hb; have n0_ := Aside0.mk (below_step (by repeat (first | (with_reducible first | exact HB.out | apply below_alloc | apply pw_below_drewN | apply below_drew1) | exact HB.out)) hb); have n1_ := Aside0.mk (hbox); have n2_ := Aside0.mk ((by rw [hg]; exact (below_size (by repeat (first | (with_reducible first | exact HB.out | apply below_alloc | apply pw_below_drewN | apply below_drew1) | exact HB.out))) : w.heap.size ≤ gb108)); have n3_ := Aside0.mk ((by rw [hg]; exact (below_size (by repeat (first | (with_reducible first | exact HB.out | apply below_alloc | apply pw_below_drewN | apply below_drew1) | exact HB.out))) : w.heap.size ≤ gb108)); clear HB; have HB := n0_; have BK108 := n1_; have GW108 := n2_; have GE108 := n3_; clear n0_ n1_ n2_ n3_; clear hb hbox hg; have hcz12_0 : w11.cell? ⟨gb108, 0, none⟩ = some (.int .u8 0) := (blk_cell BK108.out 0).trans rfl; have hcz12_1 : w11.cell? ⟨gb108, 1, none⟩ = some (.int .u8 0) := (blk_cell BK108.out 1).trans rfl; have hcz12_2 : w11.cell? ⟨gb108, 2, none⟩ = some (.int .u8 0) := (blk_cell BK108.out 2).trans rfl; have hcz12_3 : w11.cell? ⟨gb108, 3, none⟩ = some (.int .u8 0) := (blk_cell BK108.out 3).trans rfl; have hcz12_4 : w11.cell? ⟨gb108, 4, none⟩ = some (.int .u8 0) := (blk_cell BK108.out 4).trans rfl; have hcz12_5 : w11.cell? ⟨gb108, 5, none⟩ = some (.int .u8 0) := (blk_cell BK108.out 5).trans rfl; have hfz12_0 := blk_frozen BK108.out 0; have hfz12_1 := blk_frozen BK108.out 1; have hfz12_2 := blk_frozen BK108.out 2; have hfz12_3 := blk_frozen BK108.out 3; have hfz12_4 := blk_frozen BK108.out 4; have hfz12_5 := blk_frozen BK108.out 5))
   have n0_ : Aside0 (((((((w11.setCell ⟨gb108, 0, none⟩ (.int .u8 t102)).setCell ⟨gb108, 1, none⟩ (.int .u8 t103)).setCell ⟨gb108, 2, none⟩ (.int .u8 t104)).setCell ⟨gb108, 3, none⟩ (.int .u8 t105)).setCell ⟨gb108, 4, none⟩ (.int .u8 t106)).setCell ⟨gb108, 5, none⟩ (.int .u8 t107)).heap[gb108]? = some (.cells #[.int .u8 t102, .int .u8 t103, .int .u8 t104, .int .u8 t105, .int .u8 t106, .int .u8 t107] 37 (0, 0))) := ⟨by (with_reducible repeat (first | refine blk_drewN ?_ _ | refine blk_drew ?_ | refine blk_alloc ?_ _)); refine blk_put (cs := #[.int .u8 t102, .int .u8 t103, .int .u8 t104, .int .u8 t105, .int .u8 t106, .int .u8 0]) ?_ 5 _ rfl; (with_reducible repeat (first | refine blk_drewN ?_ _ | refine blk_drew ?_ | refine blk_alloc ?_ _)); refine blk_put (cs := #[.int .u8 t102, .int .u8 t103, .int .u8 t104, .int .u8 t105, .int .u8 0, .int .u8 0]) ?_ 4 _ rfl; (with_reducible repeat (first | refine blk_drewN ?_ _ | refine blk_drew ?_ | refine blk_alloc ?_ _)); refine blk_put (cs := #[.int .u8 t102, .int .u8 t103, .int .u8 t104, .int .u8 0, .int .u8 0, .int .u8 0]) ?_ 3 _ rfl; (with_reducible repeat (first | refine blk_drewN ?_ _ | refine blk_drew ?_ | refine blk_alloc ?_ _)); refine blk_put (cs := #[.int .u8 t102, .int .u8 t103, .int .u8 0, .int .u8 0, .int .u8 0, .int .u8 0]) ?_ 2 _ rfl; (with_reducible repeat (first | refine blk_drewN ?_ _ | refine blk_drew ?_ | refine blk_alloc ?_ _)); refine blk_put (cs := #[.int .u8 t102, .int .u8 0, .int .u8 0, .int .u8 0, .int .u8 0, .int .u8 0]) ?_ 1 _ rfl; (with_reducible repeat (first | refine blk_drewN ?_ _ | refine blk_drew ?_ | refine blk_alloc ?_ _)); refine blk_put (cs := #[.int .u8 0, .int .u8 0, .int .u8 0, .int .u8 0, .int .u8 0, .int .u8 0]) ?_ 0 _ rfl; (with_reducible repeat (first | refine blk_drewN ?_ _ | refine blk_drew ?_ | refine blk_alloc ?_ _)); exact BK108.out⟩
   have n1_ : Aside0 (Below w.heap.size w ((((((w11.setCell ⟨gb108, 0, none⟩ (.int .u8 t102)).setCell ⟨gb108, 1, none⟩ (.int .u8 t103)).setCell ⟨gb108, 2, none⟩ (.int .u8 t104)).setCell ⟨gb108, 3, none⟩ (.int .u8 t105)).setCell ⟨gb108, 4, none⟩ (.int .u8 t106)).setCell ⟨gb108, 5, none⟩ (.int .u8 t107))) := ⟨by repeat (first | (with_reducible first | exact HB.out | apply below_alloc | apply pw_below_drewN | apply below_drew1 | refine below_set ?_ GE108.out) | exact HB.out)⟩
   (try clear BK108)
   (try clear HB)
   generalize ((((((w11.setCell ⟨gb108, 0, none⟩ (.int .u8 t102)).setCell ⟨gb108, 1, none⟩ (.int .u8 t103)).setCell ⟨gb108, 2, none⟩ (.int .u8 t104)).setCell ⟨gb108, 3, none⟩ (.int .u8 t105)).setCell ⟨gb108, 4, none⟩ (.int .u8 t106)).setCell ⟨gb108, 5, none⟩ (.int .u8 t107)) = w13 at n0_ n1_ ⊢
   have BK108 := n0_
   have HB := n1_
   clear n0_ n1_
   have n0_ := Aside0.mk (blk_drew BK108.out)
   have n1_ := Aside0.mk (below_drew1 HB.out)
   clear BK108
   clear HB
   have BK108 := n0_
   have HB := n1_
   clear n0_ n1_
   refine start_ (n := 5) (S := fun w' => w'.cell? ⟨gb108, 0, none⟩ = some (.int .u8 t102) ∧ w'.cell? ⟨gb108, 1, none⟩ = some (.int .u8 t103) ∧ w'.cell? ⟨gb108, 2, none⟩ = some (.int .u8 t104) ∧ w'.cell? ⟨gb108, 3, none⟩ = some (.int .u8 t105) ∧ w'.cell? ⟨gb108, 4, none⟩ = some (.int .u8 t106) ∧ w'.cell? ⟨gb108, 5, none⟩ = some (.int .u8 t107)) (ds := []) #[false, false, false, false, false] (by kernel_rfl) rfl rfl ⟨(blk_cell BK108.out 0).trans rfl, (blk_cell BK108.out 1).trans rfl, (blk_cell BK108.out 2).trans rfl, (blk_cell BK108.out 3).trans rfl, (blk_cell BK108.out 4).trans rfl, (blk_cell BK108.out 5).trans rfl⟩ (fun hHeld => ?_)
   generalize w13.drew = w14 at BK108 HB hHeld ⊢
   refine pure_ (i := 0) (N := some 15) (v := ?_) (a' := ?_) #[true, false, false, false, false] rfl rfl (by kernel_rfl) (fun _ _ _ h => h) (Or.inl ⟨by rfl, ?_⟩) ?_ ?_
   rotate_left
   ·intro w'
    go_simp
    with_reducible rfl
   rotate_left
   ·simp only [Act.put, List.setIfInBounds_toArray, List.set_cons_zero, List.set_cons_succ, i64_w, i32_w]
    rfl
   refine take_ (i := 2) (N := some 17) (v := ?_) (a' := ?_) #[true, false, true, false, false] rfl rfl (by kernel_rfl) (fun _ _ _ h => h) (Or.inl ⟨by rfl, ?_⟩) hHeld ?_ ?_
   rotate_left
   ·rintro w' ⟨s0, s1, s2, s3, s4, s5⟩
    go_simp
    with_reducible rfl
   rotate_left
   ·simp only [Act.put, List.setIfInBounds_toArray, List.set_cons_zero, List.set_cons_succ, i64_w, i32_w]
    rfl
   refine one_ (i := 1) (N := some 16) #[true, true, true, false, false] rfl rfl (by kernel_rfl) (by decide) (fun K hK => ?_)
   refine goes_ Try.func17 (by kernel_rfl) rfl #[.slice A0 l0.length c0] (by rfl) rfl rfl (by (try simp only [List.map_toArray, List.map_cons, List.map_nil]); first | done | rfl | (simp only [List.length_drop, List.length_take]; rfl)) ?_
   with_reducible refine (antiphonlaw26_rows.calls k (fun k_ => k_ < w.heap.size) _ _ l0 t109 _ ?side1 A7.out).mono ?_
   (case side1 => exact Kd.V_mk HC0.out (Kd.F_below (Kd.C_F k46_heap HR0.out) (by repeat (first | (with_reducible first | exact HB.out | apply below_alloc | apply pw_below_drewN | apply below_drew1 | refine below_set ?_ GE108.out) | exact HB.out))))
   rintro e w15 ⟨v110, rfl, ho0, hb⟩
   refine ⟨_, rfl, ?_⟩
   have n0_ := Aside0.mk (Kd.N_lower (Kd.N_mono (ok' := fun k_ => k_ ≠ gb108) ho0 (fun k_ hk_ => Or.elim hk_ (fun hs_ => fun e_ => Nat.not_le.2 hs_ (by rw [e_]; exact GW108.out)) (fun hn_ => (Kd.freshB (g := gb108) (o := .cells #[.int .u8 t102, .int .u8 t103, .int .u8 t104, .int .u8 t105, .int .u8 t106, .int .u8 t107] 37 (0, 0)) (by (with_reducible repeat (first | refine blk_drewN ?_ _ | refine blk_drew ?_ | refine blk_alloc ?_ _)); exact BK108.out) k_ hn_)))) (below_size (by repeat (first | (with_reducible first | exact HB.out | apply below_alloc | apply pw_below_drewN | apply below_drew1 | refine below_set ?_ GE108.out) | exact HB.out))))
   have n1_ := Aside0.mk (blk_below (g := gb108) (o := .cells #[.int .u8 t102, .int .u8 t103, .int .u8 t104, .int .u8 t105, .int .u8 t106, .int .u8 t107] 37 (0, 0)) (by (with_reducible repeat (first | refine blk_drewN ?_ _ | refine blk_drew ?_ | refine blk_alloc ?_ _)); exact BK108.out) hb)
   have n2_ := Aside0.mk (below_step (by repeat (first | (with_reducible first | exact HB.out | apply below_alloc | apply pw_below_drewN | apply below_drew1 | refine below_set ?_ GE108.out) | exact HB.out)) hb)
   clear BK108
   clear HB
   have HO111 := n0_
   have BK108 := n1_
   have HB := n2_
   clear n0_ n1_ n2_
   (try clear hb)
   (try clear hb2)
   (try clear hk)
   (try clear hi)
   (try clear ho0)
   obtain ⟨Ao16, co16, eo16⟩ := Kd.N_slice HO111.out
   (first | subst eo16 | (injection eo16 with f1_ f2_ f3_; have f4_ := f1_.symm; have f5_ := f3_.symm; clear f1_ f2_ f3_; subst f4_; subst f5_))
   refine hK.out _ _ ⟨(blk_cell BK108.out 0).trans rfl, (blk_cell BK108.out 1).trans rfl, (blk_cell BK108.out 2).trans rfl, (blk_cell BK108.out 3).trans rfl, (blk_cell BK108.out 4).trans rfl, (blk_cell BK108.out 5).trans rfl⟩ (fun hHeld => ?_)
   clear hK K
   refine norm_ (a' := ?_) ?_ ?_
   rotate_left
   ·show Act.put _ (some 16) _ = _
    simp only [Act.put, List.setIfInBounds_toArray, List.set_cons_zero, List.set_cons_succ, i64_w, i32_w]
    rfl
   refine one_ (i := 3) (N := some 18) #[true, true, true, true, false] rfl rfl (by kernel_rfl) (by decide) (fun K hK => ?_)
   refine goes_ Try.func16 (by kernel_rfl) rfl #[.slice Ao16 t109.length co16, .int .i64 4, .int .i64 8, .agg #[.int .u8 t102, .int .u8 t103, .int .u8 t104, .int .u8 t105, .int .u8 t106, .int .u8 t107]] (by rfl) rfl rfl (by (try simp only [List.map_toArray, List.map_cons, List.map_nil]); first | done | rfl | (simp only [List.length_drop, List.length_take]; rfl)) ?_
   with_reducible refine (ledger_Runs.calls _ _ t109 4 8 t102 t103 t104 t105 t106 t107 t112 _ ?side1 ?side2 A8.out).mono ?_
   (case side1 => repeat (first | exact (Kd.N_reads' HO111.out).2.2 | (with_reducible refine Kd.C_alloc ?_ _) | (with_reducible refine Kd.C_drewN ?_ _) | (with_reducible refine Kd.C_drew ?_)))
   (case side2 => exact (Kd.N_reads' HO111.out).2.1)
   rintro e w17 ⟨v113, rfl, ho0, hb⟩
   refine ⟨_, rfl, ?_⟩
   have n0_ := Aside0.mk (Kd.N_elder' (by (with_reducible repeat (first | apply Kd.N_alloc | apply Kd.N_drewN | apply Kd.N_drew)); exact HO111.out) (Kd.N_base (Kd.R_N ho0)) hb)
   have n1_ := Aside0.mk (Kd.N_lower (Kd.N_mono (ok' := fun k_ => some k_ ≠ (.slice Ao16 t109.length co16 : Value).ownBlock ∧ k_ ≠ gb108) (Kd.R_N (Kd.R_bound ho0)) (fun k_ hk_ => ⟨(Kd.fresh' (Kd.N_lt (by (with_reducible repeat (first | apply Kd.N_alloc | apply Kd.N_drewN | apply Kd.N_drew)); exact HO111.out)) k_ hk_.2.1), (Kd.freshB (g := gb108) (o := .cells #[.int .u8 t102, .int .u8 t103, .int .u8 t104, .int .u8 t105, .int .u8 t106, .int .u8 t107] 37 (0, 0)) (by (with_reducible repeat (first | refine blk_drewN ?_ _ | refine blk_drew ?_ | refine blk_alloc ?_ _)); exact BK108.out) k_ hk_.2.1)⟩)) (below_size (by repeat (first | (with_reducible first | exact HB.out | apply below_alloc | apply pw_below_drewN | apply below_drew1 | refine below_set ?_ GE108.out) | exact HB.out))))
   have n2_ := Aside0.mk (blk_below (g := gb108) (o := .cells #[.int .u8 t102, .int .u8 t103, .int .u8 t104, .int .u8 t105, .int .u8 t106, .int .u8 t107] 37 (0, 0)) (by (with_reducible repeat (first | refine blk_drewN ?_ _ | refine blk_drew ?_ | refine blk_alloc ?_ _)); exact BK108.out) hb)
   have n3_ := Aside0.mk (below_step (by repeat (first | (with_reducible first | exact HB.out | apply below_alloc | apply pw_below_drewN | apply below_drew1 | refine below_set ?_ GE108.out) | exact HB.out)) hb)
   clear HO111
   clear BK108
   clear HB
   have HO111 := n0_
   have HO114 := n1_
   have BK108 := n2_
   have HB := n3_
   clear n0_ n1_ n2_ n3_
   (try clear hb)
   (try clear hb2)
   (try clear hk)
   (try clear hi)
   (try clear ho0)
   refine hK.out _ _ ⟨(blk_cell BK108.out 0).trans rfl, (blk_cell BK108.out 1).trans rfl, (blk_cell BK108.out 2).trans rfl, (blk_cell BK108.out 3).trans rfl, (blk_cell BK108.out 4).trans rfl, (blk_cell BK108.out 5).trans rfl⟩ (fun hHeld => ?_)
   clear hK K
   refine norm_ (a' := ?_) ?_ ?_
   rotate_left
   ·show Act.put _ (some 18) _ = _
    simp only [Act.put, List.setIfInBounds_toArray, List.set_cons_zero, List.set_cons_succ, i64_w, i32_w]
    rfl
   refine pure_ (i := 4) (N := some 4) (v := ?_) (a' := ?_) #[true, true, true, true, true] rfl rfl (by kernel_rfl) (fun _ _ _ h => h) (Or.inl ⟨by rfl, ?_⟩) ?_ ?_
   rotate_left
   ·intro w'
    go_simp
    with_reducible rfl
   rotate_left
   ·simp only [Act.put, List.setIfInBounds_toArray, List.set_cons_zero, List.set_cons_succ, i64_w, i32_w]
    rfl
   refine done_ (by kernel_rfl) ?_
   try go_wp2
   go_loopg [5, 6, 7] k (fun kq v5 v6 v7 w' => ∃ (x5_1 : Int) (x6_1 : Int) (x7_1 : Int), v5 = .int .i64 x5_1 ∧ v6 = .int .i64 x6_1 ∧ v7 = .int .i64 x7_1 ∧ Aside0 (antiphonlaw26_LedgerEpochs.l0 kq l0 t112 x5_1 x6_1 x7_1 t102 t103 t104 t105 t106 t107 = some r) ∧ Aside0 (kq ≤ k) ∧ Aside0 (Kd.N k47 47 w' w.heap.size (fun k_ => k_ ≠ gb108) v113 t112) ∧ Aside0 (w'.heap[gb108]? = some (.cells #[.int .u8 t102, .int .u8 t103, .int .u8 t104, .int .u8 t105, .int .u8 t106, .int .u8 t107] 37 (0, 0))) ∧ Aside0 (Below w.heap.size w w'))
   case atStart => exact ⟨(0), (0), (0), (by first | rfl | (simp; done) | (simp [*]; done)), (by first | rfl | (simp; done) | (simp [*]; done)), (by first | rfl | (simp; done) | (simp [*]; done)), H', ⟨Nat.le_refl _⟩, ⟨by (with_reducible repeat (first | apply Kd.N_alloc | apply Kd.N_drewN | apply Kd.N_drew)); exact Kd.N_mono HO114.out (fun _ hk => hk.2)⟩, ⟨by (with_reducible repeat (first | refine blk_drewN ?_ _ | refine blk_drew ?_ | refine blk_alloc ?_ _)); exact BK108.out⟩, ⟨by repeat (first | (with_reducible first | exact HB.out | apply below_alloc | apply pw_below_drewN | apply below_drew1 | refine below_set ?_ GE108.out) | exact HB.out)⟩⟩
   case round =>
    clear H'
    try clear c1
    try clear p2
    try clear c3
    try clear c4
    try clear c4b0
    try clear c4b1
    try clear c8
    try clear c15
    try clear c16
    try clear c17
    try clear hcz12_0
    try clear hcz12_1
    try clear hcz12_2
    try clear hcz12_3
    try clear hcz12_4
    try clear hcz12_5
    try clear hfz12_0
    try clear hfz12_1
    try clear hfz12_2
    try clear hfz12_3
    try clear hfz12_4
    try clear hfz12_5
    obtain ⟨x5_1, x6_1, x7_1, rfl, rfl, rfl, HA, HK1, HO_4, BK108, HB⟩ := hrel
    cases gk with
    | zero => exact absurd HA.out (by simp [antiphonlaw26_LedgerEpochs.l0])
    | succ k1 =>
     have H := HA.out
     clear HA
     simp only [antiphonlaw26_LedgerEpochs.l0] at H
     by_cases c18 : x7_1 < (l0.length : Int)
     ·rw [if_pos c18] at H
      have c18b0 : decide (x7_1 < (l0.length : Int)) = true := decide_eq_true c18
      clear c18
      by_cases c19 : 0 ≤ x7_1
      ·rw [if_pos c19] at H
       have c19b0 : decide (0 ≤ x7_1) = true := decide_eq_true c19
       clear c19
       by_cases c20 : (((rd_T46 l0 x7_1).f2.f4).length : Int) > 100
       ·rw [if_pos c20] at H
        have c20b0 : decide (100 < (((rd_T46 l0 x7_1).f2.f4).length : Int)) = true := decide_eq_true c20
        have c20b1 : decide (100 < ((rd_T46 l0 x7_1).f2.f4).length) = true := decide_eq_true (by omega)
        clear c20
        obtain rfl := Option.some.inj H
        have p117 : 0 ≤ (x7_1 : Int) := of_decide_eq_true (by first | (with_reducible assumption) | assumption)
        have q117 : x7_1 < (l0.length : Int) := of_decide_eq_true (by first | (with_reducible assumption) | assumption)
        obtain ⟨ad117, A117_11, c117_11, e117, hx117_0, hx117_1, hx117_2, hx117_3, hx117_4, hx117_5, hx117_6, hx117_7, hx117_8, hx117_9, hx117_10, hx117_11, hx117_12, hl117_11, hi117_11⟩ := at_T46 HR0.out x7_1 p117 q117
        cases e117
        replace hx117_0 := (HB.out.cell (World.block_lt_of_cell? w _ hx117_0)).trans hx117_0
        replace hx117_1 := (HB.out.cell (World.block_lt_of_cell? w _ hx117_1)).trans hx117_1
        replace hx117_2 := (HB.out.cell (World.block_lt_of_cell? w _ hx117_2)).trans hx117_2
        replace hx117_3 := (HB.out.cell (World.block_lt_of_cell? w _ hx117_3)).trans hx117_3
        replace hx117_4 := (HB.out.cell (World.block_lt_of_cell? w _ hx117_4)).trans hx117_4
        replace hx117_5 := (HB.out.cell (World.block_lt_of_cell? w _ hx117_5)).trans hx117_5
        replace hx117_6 := (HB.out.cell (World.block_lt_of_cell? w _ hx117_6)).trans hx117_6
        replace hx117_7 := (HB.out.cell (World.block_lt_of_cell? w _ hx117_7)).trans hx117_7
        replace hx117_8 := (HB.out.cell (World.block_lt_of_cell? w _ hx117_8)).trans hx117_8
        replace hx117_9 := (HB.out.cell (World.block_lt_of_cell? w _ hx117_9)).trans hx117_9
        replace hx117_10 := (HB.out.cell (World.block_lt_of_cell? w _ hx117_10)).trans hx117_10
        replace hx117_11 := (HB.out.cell (World.block_lt_of_cell? w _ hx117_11)).trans hx117_11
        replace hx117_12 := (HB.out.cell (World.block_lt_of_cell? w _ hx117_12)).trans hx117_12
        have HR117_11 := Aside0.mk hi117_11
        have HC117_11 := Aside0.mk hl117_11
        clear hi117_11 hl117_11
        replace p117 := eq_true p117
        replace q117 := eq_true q117
        go_wp2_with (first | ((with_reducible refine gate_dst (N := 8) rfl ?_); (try (refine gate_guard (by rfl) ?_; dsimp only)); refine box_event ?hg (N := 8) ?hd (cs := #[.int .i64 0, .int .i64 0, .int .i64 0, .int .u8 0, .int .u8 0, .int .u8 0, .int .u8 0, .int .u8 0, .int .u8 0, .slice none 0 0, .int .i64 0]) (t := 44) ?hr ?_; (case hd => rfl); (case hg => rfl); (case hr => first | (go_simp; done) | (go_simp; rfl)); intro gb118 hg w21 hbox hb; have n0_ := Aside0.mk (Kd.N_below (Kd.N_elderB (by (with_reducible repeat (first | apply Kd.N_alloc | apply Kd.N_drewN | apply Kd.N_drew)); exact HO_4.out) gb118 (Nat.le_of_eq hg.symm)) hb); have n1_ := Aside0.mk (blk_below (g := gb108) (o := .cells #[.int .u8 t102, .int .u8 t103, .int .u8 t104, .int .u8 t105, .int .u8 t106, .int .u8 t107] 37 (0, 0)) (by (with_reducible repeat (first | refine blk_drewN ?_ _ | refine blk_drew ?_ | refine blk_alloc ?_ _)); exact BK108.out) hb); have n2_ := Aside0.mk (below_step (by repeat (first | (with_reducible first | exact HB.out | apply below_alloc | apply pw_below_drewN | apply below_drew1 | refine below_set ?_ GE108.out) | exact HB.out)) hb); have n3_ := Aside0.mk (hbox); have n4_ := Aside0.mk ((by rw [hg]; exact (below_size (by repeat (first | (with_reducible first | exact HB.out | apply below_alloc | apply pw_below_drewN | apply below_drew1 | refine below_set ?_ GE108.out) | exact HB.out))) : w.heap.size ≤ gb118)); have n5_ := Aside0.mk ((by rw [hg]; exact (below_size (by repeat (first | (with_reducible first | exact HB.out | apply below_alloc | apply pw_below_drewN | apply below_drew1 | refine below_set ?_ GE108.out) | exact HB.out))) : w.heap.size ≤ gb118)); have n6_ := Aside0.mk ((by rw [hg]; exact Nat.ne_of_lt (blk_lt (g := gb108) (o := .cells #[.int .u8 t102, .int .u8 t103, .int .u8 t104, .int .u8 t105, .int .u8 t106, .int .u8 t107] 37 (0, 0)) (by (with_reducible repeat (first | refine blk_drewN ?_ _ | refine blk_drew ?_ | refine blk_alloc ?_ _)); exact BK108.out)) : gb108 ≠ gb118)); have n7_ := Aside0.mk ((by rw [hg]; exact Nat.ne_of_gt (blk_lt (g := gb108) (o := .cells #[.int .u8 t102, .int .u8 t103, .int .u8 t104, .int .u8 t105, .int .u8 t106, .int .u8 t107] 37 (0, 0)) (by (with_reducible repeat (first | refine blk_drewN ?_ _ | refine blk_drew ?_ | refine blk_alloc ?_ _)); exact BK108.out)) : gb118 ≠ gb108)); clear HO_4; clear BK108; clear HB; have HO_4 := n0_; have BK108 := n1_; have HB := n2_; have BK118 := n3_; have GW118 := n4_; have GE118 := n5_; have NB108_118 := n6_; have NB118_108 := n7_; clear n0_ n1_ n2_ n3_ n4_ n5_ n6_ n7_; clear hb hbox hg; have hnb22 := NB118_108.out; have hnc22 := NB108_118.out; have hcz23_0 : w21.cell? ⟨gb118, 0, none⟩ = some (.int .i64 0) := (blk_cell BK118.out 0).trans rfl; have hcz23_1 : w21.cell? ⟨gb118, 1, none⟩ = some (.int .i64 0) := (blk_cell BK118.out 1).trans rfl; have hcz23_2 : w21.cell? ⟨gb118, 2, none⟩ = some (.int .i64 0) := (blk_cell BK118.out 2).trans rfl; have hcz23_3 : w21.cell? ⟨gb118, 3, none⟩ = some (.int .u8 0) := (blk_cell BK118.out 3).trans rfl; have hcz23_4 : w21.cell? ⟨gb118, 4, none⟩ = some (.int .u8 0) := (blk_cell BK118.out 4).trans rfl; have hcz23_5 : w21.cell? ⟨gb118, 5, none⟩ = some (.int .u8 0) := (blk_cell BK118.out 5).trans rfl; have hcz23_6 : w21.cell? ⟨gb118, 6, none⟩ = some (.int .u8 0) := (blk_cell BK118.out 6).trans rfl; have hcz23_7 : w21.cell? ⟨gb118, 7, none⟩ = some (.int .u8 0) := (blk_cell BK118.out 7).trans rfl; have hcz23_8 : w21.cell? ⟨gb118, 8, none⟩ = some (.int .u8 0) := (blk_cell BK118.out 8).trans rfl; have hcz23_9 : w21.cell? ⟨gb118, 9, none⟩ = some (.slice none 0 0) := (blk_cell BK118.out 9).trans rfl; have hcz23_10 : w21.cell? ⟨gb118, 10, none⟩ = some (.int .i64 0) := (blk_cell BK118.out 10).trans rfl; have hfz23_0 := blk_frozen BK118.out 0; have hfz23_1 := blk_frozen BK118.out 1; have hfz23_2 := blk_frozen BK118.out 2; have hfz23_3 := blk_frozen BK118.out 3; have hfz23_4 := blk_frozen BK118.out 4; have hfz23_5 := blk_frozen BK118.out 5; have hfz23_6 := blk_frozen BK118.out 6; have hfz23_7 := blk_frozen BK118.out 7; have hfz23_8 := blk_frozen BK118.out 8; have hfz23_9 := blk_frozen BK118.out 9; have hfz23_10 := blk_frozen BK118.out 10))
        go_ret
        exact ⟨by first | rfl | (simp [errW_none, errW_some] <;> rfl) | (simp [*, errW_none, errW_some] <;> rfl), by repeat (first | (with_reducible first | exact HB.out | apply below_alloc | apply pw_below_drewN | apply below_drew1 | refine below_set ?_ GE108.out | refine below_set ?_ GE118.out) | exact HB.out)⟩
       ·rw [if_neg c20] at H
        have c20b0 : decide (100 < (((rd_T46 l0 x7_1).f2.f4).length : Int)) = false := decide_eq_false c20
        have c20b1 : decide (100 < ((rd_T46 l0 x7_1).f2.f4).length) = false := decide_eq_false (by omega)
        clear c20
        have HC24 := Aside0.mk H
        clear H
        have p117 : 0 ≤ (x7_1 : Int) := of_decide_eq_true (by first | (with_reducible assumption) | assumption)
        have q117 : x7_1 < (l0.length : Int) := of_decide_eq_true (by first | (with_reducible assumption) | assumption)
        obtain ⟨ad117, A117_11, c117_11, e117, hx117_0, hx117_1, hx117_2, hx117_3, hx117_4, hx117_5, hx117_6, hx117_7, hx117_8, hx117_9, hx117_10, hx117_11, hx117_12, hl117_11, hi117_11⟩ := at_T46 HR0.out x7_1 p117 q117
        cases e117
        replace hx117_0 := (HB.out.cell (World.block_lt_of_cell? w _ hx117_0)).trans hx117_0
        replace hx117_1 := (HB.out.cell (World.block_lt_of_cell? w _ hx117_1)).trans hx117_1
        replace hx117_2 := (HB.out.cell (World.block_lt_of_cell? w _ hx117_2)).trans hx117_2
        replace hx117_3 := (HB.out.cell (World.block_lt_of_cell? w _ hx117_3)).trans hx117_3
        replace hx117_4 := (HB.out.cell (World.block_lt_of_cell? w _ hx117_4)).trans hx117_4
        replace hx117_5 := (HB.out.cell (World.block_lt_of_cell? w _ hx117_5)).trans hx117_5
        replace hx117_6 := (HB.out.cell (World.block_lt_of_cell? w _ hx117_6)).trans hx117_6
        replace hx117_7 := (HB.out.cell (World.block_lt_of_cell? w _ hx117_7)).trans hx117_7
        replace hx117_8 := (HB.out.cell (World.block_lt_of_cell? w _ hx117_8)).trans hx117_8
        replace hx117_9 := (HB.out.cell (World.block_lt_of_cell? w _ hx117_9)).trans hx117_9
        replace hx117_10 := (HB.out.cell (World.block_lt_of_cell? w _ hx117_10)).trans hx117_10
        replace hx117_11 := (HB.out.cell (World.block_lt_of_cell? w _ hx117_11)).trans hx117_11
        replace hx117_12 := (HB.out.cell (World.block_lt_of_cell? w _ hx117_12)).trans hx117_12
        have HR117_11 := Aside0.mk hi117_11
        have HC117_11 := Aside0.mk hl117_11
        clear hi117_11 hl117_11
        replace p117 := eq_true p117
        replace q117 := eq_true q117
        go_upto_region 14 with (first | ((with_reducible refine gate_dst (N := 8) rfl ?_); (try (refine gate_guard (by rfl) ?_; dsimp only)); refine box_event ?hg (N := 8) ?hd (cs := #[.int .i64 0, .int .i64 0, .int .i64 0, .int .u8 0, .int .u8 0, .int .u8 0, .int .u8 0, .int .u8 0, .int .u8 0, .slice none 0 0, .int .i64 0]) (t := 44) ?hr ?_; (case hd => rfl); (case hg => rfl); (case hr => first | (go_simp; done) | (go_simp; rfl)); intro gb118 hg w25 hbox hb; have n0_ := Aside0.mk (Kd.N_below (Kd.N_elderB (by (with_reducible repeat (first | apply Kd.N_alloc | apply Kd.N_drewN | apply Kd.N_drew)); exact HO_4.out) gb118 (Nat.le_of_eq hg.symm)) hb); have n1_ := Aside0.mk (blk_below (g := gb108) (o := .cells #[.int .u8 t102, .int .u8 t103, .int .u8 t104, .int .u8 t105, .int .u8 t106, .int .u8 t107] 37 (0, 0)) (by (with_reducible repeat (first | refine blk_drewN ?_ _ | refine blk_drew ?_ | refine blk_alloc ?_ _)); exact BK108.out) hb); have n2_ := Aside0.mk (below_step (by repeat (first | (with_reducible first | exact HB.out | apply below_alloc | apply pw_below_drewN | apply below_drew1 | refine below_set ?_ GE108.out) | exact HB.out)) hb); have n3_ := Aside0.mk (hbox); have n4_ := Aside0.mk ((by rw [hg]; exact (below_size (by repeat (first | (with_reducible first | exact HB.out | apply below_alloc | apply pw_below_drewN | apply below_drew1 | refine below_set ?_ GE108.out) | exact HB.out))) : w.heap.size ≤ gb118)); have n5_ := Aside0.mk ((by rw [hg]; exact (below_size (by repeat (first | (with_reducible first | exact HB.out | apply below_alloc | apply pw_below_drewN | apply below_drew1 | refine below_set ?_ GE108.out) | exact HB.out))) : w.heap.size ≤ gb118)); have n6_ := Aside0.mk ((by rw [hg]; exact Nat.ne_of_lt (blk_lt (g := gb108) (o := .cells #[.int .u8 t102, .int .u8 t103, .int .u8 t104, .int .u8 t105, .int .u8 t106, .int .u8 t107] 37 (0, 0)) (by (with_reducible repeat (first | refine blk_drewN ?_ _ | refine blk_drew ?_ | refine blk_alloc ?_ _)); exact BK108.out)) : gb108 ≠ gb118)); have n7_ := Aside0.mk ((by rw [hg]; exact Nat.ne_of_gt (blk_lt (g := gb108) (o := .cells #[.int .u8 t102, .int .u8 t103, .int .u8 t104, .int .u8 t105, .int .u8 t106, .int .u8 t107] 37 (0, 0)) (by (with_reducible repeat (first | refine blk_drewN ?_ _ | refine blk_drew ?_ | refine blk_alloc ?_ _)); exact BK108.out)) : gb118 ≠ gb108)); clear HO_4; clear BK108; clear HB; have HO_4 := n0_; have BK108 := n1_; have HB := n2_; have BK118 := n3_; have GW118 := n4_; have GE118 := n5_; have NB108_118 := n6_; have NB118_108 := n7_; clear n0_ n1_ n2_ n3_ n4_ n5_ n6_ n7_; clear hb hbox hg; have hnb26 := NB118_108.out; have hnc26 := NB108_118.out; have hcz27_0 : w25.cell? ⟨gb118, 0, none⟩ = some (.int .i64 0) := (blk_cell BK118.out 0).trans rfl; have hcz27_1 : w25.cell? ⟨gb118, 1, none⟩ = some (.int .i64 0) := (blk_cell BK118.out 1).trans rfl; have hcz27_2 : w25.cell? ⟨gb118, 2, none⟩ = some (.int .i64 0) := (blk_cell BK118.out 2).trans rfl; have hcz27_3 : w25.cell? ⟨gb118, 3, none⟩ = some (.int .u8 0) := (blk_cell BK118.out 3).trans rfl; have hcz27_4 : w25.cell? ⟨gb118, 4, none⟩ = some (.int .u8 0) := (blk_cell BK118.out 4).trans rfl; have hcz27_5 : w25.cell? ⟨gb118, 5, none⟩ = some (.int .u8 0) := (blk_cell BK118.out 5).trans rfl; have hcz27_6 : w25.cell? ⟨gb118, 6, none⟩ = some (.int .u8 0) := (blk_cell BK118.out 6).trans rfl; have hcz27_7 : w25.cell? ⟨gb118, 7, none⟩ = some (.int .u8 0) := (blk_cell BK118.out 7).trans rfl; have hcz27_8 : w25.cell? ⟨gb118, 8, none⟩ = some (.int .u8 0) := (blk_cell BK118.out 8).trans rfl; have hcz27_9 : w25.cell? ⟨gb118, 9, none⟩ = some (.slice none 0 0) := (blk_cell BK118.out 9).trans rfl; have hcz27_10 : w25.cell? ⟨gb118, 10, none⟩ = some (.int .i64 0) := (blk_cell BK118.out 10).trans rfl; have hfz27_0 := blk_frozen BK118.out 0; have hfz27_1 := blk_frozen BK118.out 1; have hfz27_2 := blk_frozen BK118.out 2; have hfz27_3 := blk_frozen BK118.out 3; have hfz27_4 := blk_frozen BK118.out 4; have hfz27_5 := blk_frozen BK118.out 5; have hfz27_6 := blk_frozen BK118.out 6; have hfz27_7 := blk_frozen BK118.out 7; have hfz27_8 := blk_frozen BK118.out 8; have hfz27_9 := blk_frozen BK118.out 9; have hfz27_10 := blk_frozen BK118.out 10))
        (try simp only [Act.put, List.setIfInBounds_toArray, List.set_cons_zero, List.set_cons_succ])
        go_cut [52] (fun v52 wc => ∃ (kq : Nat) (x52_23 : Bool), v52 = .bool x52_23 ∧ Aside0 (antiphonlaw26_LedgerEpochs.j1 kq l0 t112 x5_1 x6_1 x7_1 x52_23 t102 t103 t104 t105 t106 t107 ((rd_T46 l0 x7_1).f2.f0) ((rd_T46 l0 x7_1).f2.f1) ((rd_T46 l0 x7_1).f2.f2) ((rd_T46 l0 x7_1).f2.f3.f0) ((rd_T46 l0 x7_1).f2.f3.f1) ((rd_T46 l0 x7_1).f2.f3.f2) ((rd_T46 l0 x7_1).f2.f3.f3) ((rd_T46 l0 x7_1).f2.f3.f4) ((rd_T46 l0 x7_1).f2.f3.f5) ((rd_T46 l0 x7_1).f2.f4) ((rd_T46 l0 x7_1).f2.f5) = some r) ∧ Aside0 (kq ≤ k1) ∧ Aside0 (Kd.N k47 47 wc w.heap.size (fun k_ => k_ ≠ gb108 ∧ k_ ≠ gb118) v113 t112) ∧ Aside0 (wc.heap[gb108]? = some (.cells #[.int .u8 t102, .int .u8 t103, .int .u8 t104, .int .u8 t105, .int .u8 t106, .int .u8 t107] 37 (0, 0))) ∧ Aside0 (wc.heap[gb118]? = some (.cells #[.int .i64 ((rd_T46 l0 x7_1).f2.f0), .int .i64 ((rd_T46 l0 x7_1).f2.f1), .int .i64 ((rd_T46 l0 x7_1).f2.f2), .int .u8 ((rd_T46 l0 x7_1).f2.f3.f0), .int .u8 ((rd_T46 l0 x7_1).f2.f3.f1), .int .u8 ((rd_T46 l0 x7_1).f2.f3.f2), .int .u8 ((rd_T46 l0 x7_1).f2.f3.f3), .int .u8 ((rd_T46 l0 x7_1).f2.f3.f4), .int .u8 ((rd_T46 l0 x7_1).f2.f3.f5), (.slice A117_11 ((rd_T46 l0 x7_1).f2.f4).length c117_11), .int .i64 ((rd_T46 l0 x7_1).f2.f5)] 44 (0, 0))) ∧ Aside0 (Below w.heap.size w wc))
        case first =>
         have H := HC24.out
         clear HC24
         by_cases c28 : ((rd_T46 l0 x7_1).f2.f0) = 9
         ·rw [if_pos c28] at H
          have c28b0 : (((rd_T46 l0 x7_1).f2.f0) == 9) = true := beq_iff_eq.mpr c28
          have c28b1 : (((rd_T46 l0 x7_1).f2.f0) != 9) = false := bne_eq_false_iff_eq.mpr c28
          clear c28
          (first | rw [c28b0] | (simp only [i64_w, i32_w]; rw [c28b0]) | skip)
          by_cases c29 : ((rd_T46 l0 x7_1).f2.f1) = 4
          ·rw [if_pos c29] at H
           have c29b0 : (((rd_T46 l0 x7_1).f2.f1) == 4) = true := beq_iff_eq.mpr c29
           have c29b1 : (((rd_T46 l0 x7_1).f2.f1) != 4) = false := bne_eq_false_iff_eq.mpr c29
           clear c29
           by_cases c30 : ((rd_T46 l0 x7_1).f2.f2) = 8
           ·rw [if_pos c30] at H
            have c30b0 : (((rd_T46 l0 x7_1).f2.f2) == 8) = true := beq_iff_eq.mpr c30
            have c30b1 : (((rd_T46 l0 x7_1).f2.f2) != 8) = false := bne_eq_false_iff_eq.mpr c30
            clear c30
            have H' := Aside0.mk H
            clear H
            have hnb31 := NB118_108.out
            have hnc31 := NB108_118.out
            have hcz32_0 : w25.cell? ⟨gb118, 0, none⟩ = some (.int .i64 0) := (blk_cell BK118.out 0).trans rfl
            have hcz32_1 : w25.cell? ⟨gb118, 1, none⟩ = some (.int .i64 0) := (blk_cell BK118.out 1).trans rfl
            have hcz32_2 : w25.cell? ⟨gb118, 2, none⟩ = some (.int .i64 0) := (blk_cell BK118.out 2).trans rfl
            have hcz32_3 : w25.cell? ⟨gb118, 3, none⟩ = some (.int .u8 0) := (blk_cell BK118.out 3).trans rfl
            have hcz32_4 : w25.cell? ⟨gb118, 4, none⟩ = some (.int .u8 0) := (blk_cell BK118.out 4).trans rfl
            have hcz32_5 : w25.cell? ⟨gb118, 5, none⟩ = some (.int .u8 0) := (blk_cell BK118.out 5).trans rfl
            have hcz32_6 : w25.cell? ⟨gb118, 6, none⟩ = some (.int .u8 0) := (blk_cell BK118.out 6).trans rfl
            have hcz32_7 : w25.cell? ⟨gb118, 7, none⟩ = some (.int .u8 0) := (blk_cell BK118.out 7).trans rfl
            have hcz32_8 : w25.cell? ⟨gb118, 8, none⟩ = some (.int .u8 0) := (blk_cell BK118.out 8).trans rfl
            have hcz32_9 : w25.cell? ⟨gb118, 9, none⟩ = some (.slice none 0 0) := (blk_cell BK118.out 9).trans rfl
            have hcz32_10 : w25.cell? ⟨gb118, 10, none⟩ = some (.int .i64 0) := (blk_cell BK118.out 10).trans rfl
            have hfz32_0 := blk_frozen BK118.out 0
            have hfz32_1 := blk_frozen BK118.out 1
            have hfz32_2 := blk_frozen BK118.out 2
            have hfz32_3 := blk_frozen BK118.out 3
            have hfz32_4 := blk_frozen BK118.out 4
            have hfz32_5 := blk_frozen BK118.out 5
            have hfz32_6 := blk_frozen BK118.out 6
            have hfz32_7 := blk_frozen BK118.out 7
            have hfz32_8 := blk_frozen BK118.out 8
            have hfz32_9 := blk_frozen BK118.out 9
            have hfz32_10 := blk_frozen BK118.out 10
            have hcz33_0 : w25.cell? ⟨gb108, 0, none⟩ = some (.int .u8 t102) := (blk_cell BK108.out 0).trans rfl
            have hcz33_1 : w25.cell? ⟨gb108, 1, none⟩ = some (.int .u8 t103) := (blk_cell BK108.out 1).trans rfl
            have hcz33_2 : w25.cell? ⟨gb108, 2, none⟩ = some (.int .u8 t104) := (blk_cell BK108.out 2).trans rfl
            have hcz33_3 : w25.cell? ⟨gb108, 3, none⟩ = some (.int .u8 t105) := (blk_cell BK108.out 3).trans rfl
            have hcz33_4 : w25.cell? ⟨gb108, 4, none⟩ = some (.int .u8 t106) := (blk_cell BK108.out 4).trans rfl
            have hcz33_5 : w25.cell? ⟨gb108, 5, none⟩ = some (.int .u8 t107) := (blk_cell BK108.out 5).trans rfl
            have hfz33_0 := blk_frozen BK108.out 0
            have hfz33_1 := blk_frozen BK108.out 1
            have hfz33_2 := blk_frozen BK108.out 2
            have hfz33_3 := blk_frozen BK108.out 3
            have hfz33_4 := blk_frozen BK108.out 4
            have hfz33_5 := blk_frozen BK108.out 5
            go_wp2
            go_meet
            case rel => exact ⟨_, ((!(((rd_T46 l0 x7_1).f2.f3.f0) == t102) || (!(((rd_T46 l0 x7_1).f2.f3.f1) == t103) || (!(((rd_T46 l0 x7_1).f2.f3.f2) == t104) || (!(((rd_T46 l0 x7_1).f2.f3.f3) == t105) || (!(((rd_T46 l0 x7_1).f2.f3.f4) == t106) || (!(((rd_T46 l0 x7_1).f2.f3.f5) == t107)))))))), (by first | rfl | (simp; done) | (simp [*]; done)), H', ⟨by have := HK1.out; first | omega | exact Nat.le_refl _⟩, ⟨by (with_reducible repeat (first | apply Kd.N_alloc | apply Kd.N_drewN | apply Kd.N_drew)); exact Kd.N_mono (Kd.N_far (p := ⟨gb118, 10, none⟩) (Kd.N_far (p := ⟨gb118, 9, none⟩) (Kd.N_far (p := ⟨gb118, 8, none⟩) (Kd.N_far (p := ⟨gb118, 7, none⟩) (Kd.N_far (p := ⟨gb118, 6, none⟩) (Kd.N_far (p := ⟨gb118, 5, none⟩) (Kd.N_far (p := ⟨gb118, 4, none⟩) (Kd.N_far (p := ⟨gb118, 3, none⟩) (Kd.N_far (p := ⟨gb118, 2, none⟩) (Kd.N_far (p := ⟨gb118, 1, none⟩) (Kd.N_far (p := ⟨gb118, 0, none⟩) (Kd.N_mono HO_4.out (fun k_ hk => (⟨hk, hk.2⟩ : _ ∧ k_ ≠ gb118))) (fun _ hk => hk.2) (.int .i64 ((rd_T46 l0 x7_1).f2.f0))) (fun _ hk => hk.2) (.int .i64 ((rd_T46 l0 x7_1).f2.f1))) (fun _ hk => hk.2) (.int .i64 ((rd_T46 l0 x7_1).f2.f2))) (fun _ hk => hk.2) (.int .u8 ((rd_T46 l0 x7_1).f2.f3.f0))) (fun _ hk => hk.2) (.int .u8 ((rd_T46 l0 x7_1).f2.f3.f1))) (fun _ hk => hk.2) (.int .u8 ((rd_T46 l0 x7_1).f2.f3.f2))) (fun _ hk => hk.2) (.int .u8 ((rd_T46 l0 x7_1).f2.f3.f3))) (fun _ hk => hk.2) (.int .u8 ((rd_T46 l0 x7_1).f2.f3.f4))) (fun _ hk => hk.2) (.int .u8 ((rd_T46 l0 x7_1).f2.f3.f5))) (fun _ hk => hk.2) (.slice A117_11 ((rd_T46 l0 x7_1).f2.f4).length c117_11)) (fun _ hk => hk.2) (.int .i64 ((rd_T46 l0 x7_1).f2.f5))) (fun _ hk => ⟨hk.1.1, hk.1.2⟩)⟩, ⟨by (with_reducible repeat (first | refine blk_drewN ?_ _ | refine blk_drew ?_ | refine blk_alloc ?_ _)); refine blk_far ?_ NB108_118.out _; (with_reducible repeat (first | refine blk_drewN ?_ _ | refine blk_drew ?_ | refine blk_alloc ?_ _)); refine blk_far ?_ NB108_118.out _; (with_reducible repeat (first | refine blk_drewN ?_ _ | refine blk_drew ?_ | refine blk_alloc ?_ _)); refine blk_far ?_ NB108_118.out _; (with_reducible repeat (first | refine blk_drewN ?_ _ | refine blk_drew ?_ | refine blk_alloc ?_ _)); refine blk_far ?_ NB108_118.out _; (with_reducible repeat (first | refine blk_drewN ?_ _ | refine blk_drew ?_ | refine blk_alloc ?_ _)); refine blk_far ?_ NB108_118.out _; (with_reducible repeat (first | refine blk_drewN ?_ _ | refine blk_drew ?_ | refine blk_alloc ?_ _)); refine blk_far ?_ NB108_118.out _; (with_reducible repeat (first | refine blk_drewN ?_ _ | refine blk_drew ?_ | refine blk_alloc ?_ _)); refine blk_far ?_ NB108_118.out _; (with_reducible repeat (first | refine blk_drewN ?_ _ | refine blk_drew ?_ | refine blk_alloc ?_ _)); refine blk_far ?_ NB108_118.out _; (with_reducible repeat (first | refine blk_drewN ?_ _ | refine blk_drew ?_ | refine blk_alloc ?_ _)); refine blk_far ?_ NB108_118.out _; (with_reducible repeat (first | refine blk_drewN ?_ _ | refine blk_drew ?_ | refine blk_alloc ?_ _)); refine blk_far ?_ NB108_118.out _; (with_reducible repeat (first | refine blk_drewN ?_ _ | refine blk_drew ?_ | refine blk_alloc ?_ _)); refine blk_far ?_ NB108_118.out _; (with_reducible repeat (first | refine blk_drewN ?_ _ | refine blk_drew ?_ | refine blk_alloc ?_ _)); exact BK108.out⟩, ⟨by (with_reducible repeat (first | refine blk_drewN ?_ _ | refine blk_drew ?_ | refine blk_alloc ?_ _)); refine blk_put (cs := #[.int .i64 ((rd_T46 l0 x7_1).f2.f0), .int .i64 ((rd_T46 l0 x7_1).f2.f1), .int .i64 ((rd_T46 l0 x7_1).f2.f2), .int .u8 ((rd_T46 l0 x7_1).f2.f3.f0), .int .u8 ((rd_T46 l0 x7_1).f2.f3.f1), .int .u8 ((rd_T46 l0 x7_1).f2.f3.f2), .int .u8 ((rd_T46 l0 x7_1).f2.f3.f3), .int .u8 ((rd_T46 l0 x7_1).f2.f3.f4), .int .u8 ((rd_T46 l0 x7_1).f2.f3.f5), .slice A117_11 ((rd_T46 l0 x7_1).f2.f4).length c117_11, .int .i64 0]) ?_ 10 _ rfl; (with_reducible repeat (first | refine blk_drewN ?_ _ | refine blk_drew ?_ | refine blk_alloc ?_ _)); refine blk_put (cs := #[.int .i64 ((rd_T46 l0 x7_1).f2.f0), .int .i64 ((rd_T46 l0 x7_1).f2.f1), .int .i64 ((rd_T46 l0 x7_1).f2.f2), .int .u8 ((rd_T46 l0 x7_1).f2.f3.f0), .int .u8 ((rd_T46 l0 x7_1).f2.f3.f1), .int .u8 ((rd_T46 l0 x7_1).f2.f3.f2), .int .u8 ((rd_T46 l0 x7_1).f2.f3.f3), .int .u8 ((rd_T46 l0 x7_1).f2.f3.f4), .int .u8 ((rd_T46 l0 x7_1).f2.f3.f5), .slice none 0 0, .int .i64 0]) ?_ 9 _ rfl; (with_reducible repeat (first | refine blk_drewN ?_ _ | refine blk_drew ?_ | refine blk_alloc ?_ _)); refine blk_put (cs := #[.int .i64 ((rd_T46 l0 x7_1).f2.f0), .int .i64 ((rd_T46 l0 x7_1).f2.f1), .int .i64 ((rd_T46 l0 x7_1).f2.f2), .int .u8 ((rd_T46 l0 x7_1).f2.f3.f0), .int .u8 ((rd_T46 l0 x7_1).f2.f3.f1), .int .u8 ((rd_T46 l0 x7_1).f2.f3.f2), .int .u8 ((rd_T46 l0 x7_1).f2.f3.f3), .int .u8 ((rd_T46 l0 x7_1).f2.f3.f4), .int .u8 0, .slice none 0 0, .int .i64 0]) ?_ 8 _ rfl; (with_reducible repeat (first | refine blk_drewN ?_ _ | refine blk_drew ?_ | refine blk_alloc ?_ _)); refine blk_put (cs := #[.int .i64 ((rd_T46 l0 x7_1).f2.f0), .int .i64 ((rd_T46 l0 x7_1).f2.f1), .int .i64 ((rd_T46 l0 x7_1).f2.f2), .int .u8 ((rd_T46 l0 x7_1).f2.f3.f0), .int .u8 ((rd_T46 l0 x7_1).f2.f3.f1), .int .u8 ((rd_T46 l0 x7_1).f2.f3.f2), .int .u8 ((rd_T46 l0 x7_1).f2.f3.f3), .int .u8 0, .int .u8 0, .slice none 0 0, .int .i64 0]) ?_ 7 _ rfl; (with_reducible repeat (first | refine blk_drewN ?_ _ | refine blk_drew ?_ | refine blk_alloc ?_ _)); refine blk_put (cs := #[.int .i64 ((rd_T46 l0 x7_1).f2.f0), .int .i64 ((rd_T46 l0 x7_1).f2.f1), .int .i64 ((rd_T46 l0 x7_1).f2.f2), .int .u8 ((rd_T46 l0 x7_1).f2.f3.f0), .int .u8 ((rd_T46 l0 x7_1).f2.f3.f1), .int .u8 ((rd_T46 l0 x7_1).f2.f3.f2), .int .u8 0, .int .u8 0, .int .u8 0, .slice none 0 0, .int .i64 0]) ?_ 6 _ rfl; (with_reducible repeat (first | refine blk_drewN ?_ _ | refine blk_drew ?_ | refine blk_alloc ?_ _)); refine blk_put (cs := #[.int .i64 ((rd_T46 l0 x7_1).f2.f0), .int .i64 ((rd_T46 l0 x7_1).f2.f1), .int .i64 ((rd_T46 l0 x7_1).f2.f2), .int .u8 ((rd_T46 l0 x7_1).f2.f3.f0), .int .u8 ((rd_T46 l0 x7_1).f2.f3.f1), .int .u8 0, .int .u8 0, .int .u8 0, .int .u8 0, .slice none 0 0, .int .i64 0]) ?_ 5 _ rfl; (with_reducible repeat (first | refine blk_drewN ?_ _ | refine blk_drew ?_ | refine blk_alloc ?_ _)); refine blk_put (cs := #[.int .i64 ((rd_T46 l0 x7_1).f2.f0), .int .i64 ((rd_T46 l0 x7_1).f2.f1), .int .i64 ((rd_T46 l0 x7_1).f2.f2), .int .u8 ((rd_T46 l0 x7_1).f2.f3.f0), .int .u8 0, .int .u8 0, .int .u8 0, .int .u8 0, .int .u8 0, .slice none 0 0, .int .i64 0]) ?_ 4 _ rfl; (with_reducible repeat (first | refine blk_drewN ?_ _ | refine blk_drew ?_ | refine blk_alloc ?_ _)); refine blk_put (cs := #[.int .i64 ((rd_T46 l0 x7_1).f2.f0), .int .i64 ((rd_T46 l0 x7_1).f2.f1), .int .i64 ((rd_T46 l0 x7_1).f2.f2), .int .u8 0, .int .u8 0, .int .u8 0, .int .u8 0, .int .u8 0, .int .u8 0, .slice none 0 0, .int .i64 0]) ?_ 3 _ rfl; (with_reducible repeat (first | refine blk_drewN ?_ _ | refine blk_drew ?_ | refine blk_alloc ?_ _)); refine blk_put (cs := #[.int .i64 ((rd_T46 l0 x7_1).f2.f0), .int .i64 ((rd_T46 l0 x7_1).f2.f1), .int .i64 0, .int .u8 0, .int .u8 0, .int .u8 0, .int .u8 0, .int .u8 0, .int .u8 0, .slice none 0 0, .int .i64 0]) ?_ 2 _ rfl; (with_reducible repeat (first | refine blk_drewN ?_ _ | refine blk_drew ?_ | refine blk_alloc ?_ _)); refine blk_put (cs := #[.int .i64 ((rd_T46 l0 x7_1).f2.f0), .int .i64 0, .int .i64 0, .int .u8 0, .int .u8 0, .int .u8 0, .int .u8 0, .int .u8 0, .int .u8 0, .slice none 0 0, .int .i64 0]) ?_ 1 _ rfl; (with_reducible repeat (first | refine blk_drewN ?_ _ | refine blk_drew ?_ | refine blk_alloc ?_ _)); refine blk_put (cs := #[.int .i64 0, .int .i64 0, .int .i64 0, .int .u8 0, .int .u8 0, .int .u8 0, .int .u8 0, .int .u8 0, .int .u8 0, .slice none 0 0, .int .i64 0]) ?_ 0 _ rfl; (with_reducible repeat (first | refine blk_drewN ?_ _ | refine blk_drew ?_ | refine blk_alloc ?_ _)); exact BK118.out⟩, ⟨by repeat (first | (with_reducible first | exact HB.out | apply below_alloc | apply pw_below_drewN | apply below_drew1 | refine below_set ?_ GE108.out | refine below_set ?_ GE118.out) | exact HB.out)⟩⟩
           ·rw [if_neg c30] at H
            have c30b0 : (((rd_T46 l0 x7_1).f2.f2) == 8) = false := beq_eq_false_iff_ne.mpr c30
            have c30b1 : (((rd_T46 l0 x7_1).f2.f2) != 8) = true := bne_iff_ne.mpr c30
            have H' := Aside0.mk H
            clear H
            have hnb34 := NB118_108.out
            have hnc34 := NB108_118.out
            have hcz35_0 : w25.cell? ⟨gb118, 0, none⟩ = some (.int .i64 0) := (blk_cell BK118.out 0).trans rfl
            have hcz35_1 : w25.cell? ⟨gb118, 1, none⟩ = some (.int .i64 0) := (blk_cell BK118.out 1).trans rfl
            have hcz35_2 : w25.cell? ⟨gb118, 2, none⟩ = some (.int .i64 0) := (blk_cell BK118.out 2).trans rfl
            have hcz35_3 : w25.cell? ⟨gb118, 3, none⟩ = some (.int .u8 0) := (blk_cell BK118.out 3).trans rfl
            have hcz35_4 : w25.cell? ⟨gb118, 4, none⟩ = some (.int .u8 0) := (blk_cell BK118.out 4).trans rfl
            have hcz35_5 : w25.cell? ⟨gb118, 5, none⟩ = some (.int .u8 0) := (blk_cell BK118.out 5).trans rfl
            have hcz35_6 : w25.cell? ⟨gb118, 6, none⟩ = some (.int .u8 0) := (blk_cell BK118.out 6).trans rfl
            have hcz35_7 : w25.cell? ⟨gb118, 7, none⟩ = some (.int .u8 0) := (blk_cell BK118.out 7).trans rfl
            have hcz35_8 : w25.cell? ⟨gb118, 8, none⟩ = some (.int .u8 0) := (blk_cell BK118.out 8).trans rfl
            have hcz35_9 : w25.cell? ⟨gb118, 9, none⟩ = some (.slice none 0 0) := (blk_cell BK118.out 9).trans rfl
            have hcz35_10 : w25.cell? ⟨gb118, 10, none⟩ = some (.int .i64 0) := (blk_cell BK118.out 10).trans rfl
            have hfz35_0 := blk_frozen BK118.out 0
            have hfz35_1 := blk_frozen BK118.out 1
            have hfz35_2 := blk_frozen BK118.out 2
            have hfz35_3 := blk_frozen BK118.out 3
            have hfz35_4 := blk_frozen BK118.out 4
            have hfz35_5 := blk_frozen BK118.out 5
            have hfz35_6 := blk_frozen BK118.out 6
            have hfz35_7 := blk_frozen BK118.out 7
            have hfz35_8 := blk_frozen BK118.out 8
            have hfz35_9 := blk_frozen BK118.out 9
            have hfz35_10 := blk_frozen BK118.out 10
            go_wp2
            go_meet
            case rel => exact ⟨_, (true), (by first | rfl | (simp; done) | (simp [*]; done)), H', ⟨by have := HK1.out; first | omega | exact Nat.le_refl _⟩, ⟨by (with_reducible repeat (first | apply Kd.N_alloc | apply Kd.N_drewN | apply Kd.N_drew)); exact Kd.N_mono (Kd.N_far (p := ⟨gb118, 10, none⟩) (Kd.N_far (p := ⟨gb118, 9, none⟩) (Kd.N_far (p := ⟨gb118, 8, none⟩) (Kd.N_far (p := ⟨gb118, 7, none⟩) (Kd.N_far (p := ⟨gb118, 6, none⟩) (Kd.N_far (p := ⟨gb118, 5, none⟩) (Kd.N_far (p := ⟨gb118, 4, none⟩) (Kd.N_far (p := ⟨gb118, 3, none⟩) (Kd.N_far (p := ⟨gb118, 2, none⟩) (Kd.N_far (p := ⟨gb118, 1, none⟩) (Kd.N_far (p := ⟨gb118, 0, none⟩) (Kd.N_mono HO_4.out (fun k_ hk => (⟨hk, hk.2⟩ : _ ∧ k_ ≠ gb118))) (fun _ hk => hk.2) (.int .i64 ((rd_T46 l0 x7_1).f2.f0))) (fun _ hk => hk.2) (.int .i64 ((rd_T46 l0 x7_1).f2.f1))) (fun _ hk => hk.2) (.int .i64 ((rd_T46 l0 x7_1).f2.f2))) (fun _ hk => hk.2) (.int .u8 ((rd_T46 l0 x7_1).f2.f3.f0))) (fun _ hk => hk.2) (.int .u8 ((rd_T46 l0 x7_1).f2.f3.f1))) (fun _ hk => hk.2) (.int .u8 ((rd_T46 l0 x7_1).f2.f3.f2))) (fun _ hk => hk.2) (.int .u8 ((rd_T46 l0 x7_1).f2.f3.f3))) (fun _ hk => hk.2) (.int .u8 ((rd_T46 l0 x7_1).f2.f3.f4))) (fun _ hk => hk.2) (.int .u8 ((rd_T46 l0 x7_1).f2.f3.f5))) (fun _ hk => hk.2) (.slice A117_11 ((rd_T46 l0 x7_1).f2.f4).length c117_11)) (fun _ hk => hk.2) (.int .i64 ((rd_T46 l0 x7_1).f2.f5))) (fun _ hk => ⟨hk.1.1, hk.1.2⟩)⟩, ⟨by (with_reducible repeat (first | refine blk_drewN ?_ _ | refine blk_drew ?_ | refine blk_alloc ?_ _)); refine blk_far ?_ NB108_118.out _; (with_reducible repeat (first | refine blk_drewN ?_ _ | refine blk_drew ?_ | refine blk_alloc ?_ _)); refine blk_far ?_ NB108_118.out _; (with_reducible repeat (first | refine blk_drewN ?_ _ | refine blk_drew ?_ | refine blk_alloc ?_ _)); refine blk_far ?_ NB108_118.out _; (with_reducible repeat (first | refine blk_drewN ?_ _ | refine blk_drew ?_ | refine blk_alloc ?_ _)); refine blk_far ?_ NB108_118.out _; (with_reducible repeat (first | refine blk_drewN ?_ _ | refine blk_drew ?_ | refine blk_alloc ?_ _)); refine blk_far ?_ NB108_118.out _; (with_reducible repeat (first | refine blk_drewN ?_ _ | refine blk_drew ?_ | refine blk_alloc ?_ _)); refine blk_far ?_ NB108_118.out _; (with_reducible repeat (first | refine blk_drewN ?_ _ | refine blk_drew ?_ | refine blk_alloc ?_ _)); refine blk_far ?_ NB108_118.out _; (with_reducible repeat (first | refine blk_drewN ?_ _ | refine blk_drew ?_ | refine blk_alloc ?_ _)); refine blk_far ?_ NB108_118.out _; (with_reducible repeat (first | refine blk_drewN ?_ _ | refine blk_drew ?_ | refine blk_alloc ?_ _)); refine blk_far ?_ NB108_118.out _; (with_reducible repeat (first | refine blk_drewN ?_ _ | refine blk_drew ?_ | refine blk_alloc ?_ _)); refine blk_far ?_ NB108_118.out _; (with_reducible repeat (first | refine blk_drewN ?_ _ | refine blk_drew ?_ | refine blk_alloc ?_ _)); refine blk_far ?_ NB108_118.out _; (with_reducible repeat (first | refine blk_drewN ?_ _ | refine blk_drew ?_ | refine blk_alloc ?_ _)); exact BK108.out⟩, ⟨by (with_reducible repeat (first | refine blk_drewN ?_ _ | refine blk_drew ?_ | refine blk_alloc ?_ _)); refine blk_put (cs := #[.int .i64 ((rd_T46 l0 x7_1).f2.f0), .int .i64 ((rd_T46 l0 x7_1).f2.f1), .int .i64 ((rd_T46 l0 x7_1).f2.f2), .int .u8 ((rd_T46 l0 x7_1).f2.f3.f0), .int .u8 ((rd_T46 l0 x7_1).f2.f3.f1), .int .u8 ((rd_T46 l0 x7_1).f2.f3.f2), .int .u8 ((rd_T46 l0 x7_1).f2.f3.f3), .int .u8 ((rd_T46 l0 x7_1).f2.f3.f4), .int .u8 ((rd_T46 l0 x7_1).f2.f3.f5), .slice A117_11 ((rd_T46 l0 x7_1).f2.f4).length c117_11, .int .i64 0]) ?_ 10 _ rfl; (with_reducible repeat (first | refine blk_drewN ?_ _ | refine blk_drew ?_ | refine blk_alloc ?_ _)); refine blk_put (cs := #[.int .i64 ((rd_T46 l0 x7_1).f2.f0), .int .i64 ((rd_T46 l0 x7_1).f2.f1), .int .i64 ((rd_T46 l0 x7_1).f2.f2), .int .u8 ((rd_T46 l0 x7_1).f2.f3.f0), .int .u8 ((rd_T46 l0 x7_1).f2.f3.f1), .int .u8 ((rd_T46 l0 x7_1).f2.f3.f2), .int .u8 ((rd_T46 l0 x7_1).f2.f3.f3), .int .u8 ((rd_T46 l0 x7_1).f2.f3.f4), .int .u8 ((rd_T46 l0 x7_1).f2.f3.f5), .slice none 0 0, .int .i64 0]) ?_ 9 _ rfl; (with_reducible repeat (first | refine blk_drewN ?_ _ | refine blk_drew ?_ | refine blk_alloc ?_ _)); refine blk_put (cs := #[.int .i64 ((rd_T46 l0 x7_1).f2.f0), .int .i64 ((rd_T46 l0 x7_1).f2.f1), .int .i64 ((rd_T46 l0 x7_1).f2.f2), .int .u8 ((rd_T46 l0 x7_1).f2.f3.f0), .int .u8 ((rd_T46 l0 x7_1).f2.f3.f1), .int .u8 ((rd_T46 l0 x7_1).f2.f3.f2), .int .u8 ((rd_T46 l0 x7_1).f2.f3.f3), .int .u8 ((rd_T46 l0 x7_1).f2.f3.f4), .int .u8 0, .slice none 0 0, .int .i64 0]) ?_ 8 _ rfl; (with_reducible repeat (first | refine blk_drewN ?_ _ | refine blk_drew ?_ | refine blk_alloc ?_ _)); refine blk_put (cs := #[.int .i64 ((rd_T46 l0 x7_1).f2.f0), .int .i64 ((rd_T46 l0 x7_1).f2.f1), .int .i64 ((rd_T46 l0 x7_1).f2.f2), .int .u8 ((rd_T46 l0 x7_1).f2.f3.f0), .int .u8 ((rd_T46 l0 x7_1).f2.f3.f1), .int .u8 ((rd_T46 l0 x7_1).f2.f3.f2), .int .u8 ((rd_T46 l0 x7_1).f2.f3.f3), .int .u8 0, .int .u8 0, .slice none 0 0, .int .i64 0]) ?_ 7 _ rfl; (with_reducible repeat (first | refine blk_drewN ?_ _ | refine blk_drew ?_ | refine blk_alloc ?_ _)); refine blk_put (cs := #[.int .i64 ((rd_T46 l0 x7_1).f2.f0), .int .i64 ((rd_T46 l0 x7_1).f2.f1), .int .i64 ((rd_T46 l0 x7_1).f2.f2), .int .u8 ((rd_T46 l0 x7_1).f2.f3.f0), .int .u8 ((rd_T46 l0 x7_1).f2.f3.f1), .int .u8 ((rd_T46 l0 x7_1).f2.f3.f2), .int .u8 0, .int .u8 0, .int .u8 0, .slice none 0 0, .int .i64 0]) ?_ 6 _ rfl; (with_reducible repeat (first | refine blk_drewN ?_ _ | refine blk_drew ?_ | refine blk_alloc ?_ _)); refine blk_put (cs := #[.int .i64 ((rd_T46 l0 x7_1).f2.f0), .int .i64 ((rd_T46 l0 x7_1).f2.f1), .int .i64 ((rd_T46 l0 x7_1).f2.f2), .int .u8 ((rd_T46 l0 x7_1).f2.f3.f0), .int .u8 ((rd_T46 l0 x7_1).f2.f3.f1), .int .u8 0, .int .u8 0, .int .u8 0, .int .u8 0, .slice none 0 0, .int .i64 0]) ?_ 5 _ rfl; (with_reducible repeat (first | refine blk_drewN ?_ _ | refine blk_drew ?_ | refine blk_alloc ?_ _)); refine blk_put (cs := #[.int .i64 ((rd_T46 l0 x7_1).f2.f0), .int .i64 ((rd_T46 l0 x7_1).f2.f1), .int .i64 ((rd_T46 l0 x7_1).f2.f2), .int .u8 ((rd_T46 l0 x7_1).f2.f3.f0), .int .u8 0, .int .u8 0, .int .u8 0, .int .u8 0, .int .u8 0, .slice none 0 0, .int .i64 0]) ?_ 4 _ rfl; (with_reducible repeat (first | refine blk_drewN ?_ _ | refine blk_drew ?_ | refine blk_alloc ?_ _)); refine blk_put (cs := #[.int .i64 ((rd_T46 l0 x7_1).f2.f0), .int .i64 ((rd_T46 l0 x7_1).f2.f1), .int .i64 ((rd_T46 l0 x7_1).f2.f2), .int .u8 0, .int .u8 0, .int .u8 0, .int .u8 0, .int .u8 0, .int .u8 0, .slice none 0 0, .int .i64 0]) ?_ 3 _ rfl; (with_reducible repeat (first | refine blk_drewN ?_ _ | refine blk_drew ?_ | refine blk_alloc ?_ _)); refine blk_put (cs := #[.int .i64 ((rd_T46 l0 x7_1).f2.f0), .int .i64 ((rd_T46 l0 x7_1).f2.f1), .int .i64 0, .int .u8 0, .int .u8 0, .int .u8 0, .int .u8 0, .int .u8 0, .int .u8 0, .slice none 0 0, .int .i64 0]) ?_ 2 _ rfl; (with_reducible repeat (first | refine blk_drewN ?_ _ | refine blk_drew ?_ | refine blk_alloc ?_ _)); refine blk_put (cs := #[.int .i64 ((rd_T46 l0 x7_1).f2.f0), .int .i64 0, .int .i64 0, .int .u8 0, .int .u8 0, .int .u8 0, .int .u8 0, .int .u8 0, .int .u8 0, .slice none 0 0, .int .i64 0]) ?_ 1 _ rfl; (with_reducible repeat (first | refine blk_drewN ?_ _ | refine blk_drew ?_ | refine blk_alloc ?_ _)); refine blk_put (cs := #[.int .i64 0, .int .i64 0, .int .i64 0, .int .u8 0, .int .u8 0, .int .u8 0, .int .u8 0, .int .u8 0, .int .u8 0, .slice none 0 0, .int .i64 0]) ?_ 0 _ rfl; (with_reducible repeat (first | refine blk_drewN ?_ _ | refine blk_drew ?_ | refine blk_alloc ?_ _)); exact BK118.out⟩, ⟨by repeat (first | (with_reducible first | exact HB.out | apply below_alloc | apply pw_below_drewN | apply below_drew1 | refine below_set ?_ GE108.out | refine below_set ?_ GE118.out) | exact HB.out)⟩⟩
          ·rw [if_neg c29] at H
           have c29b0 : (((rd_T46 l0 x7_1).f2.f1) == 4) = false := beq_eq_false_iff_ne.mpr c29
           have c29b1 : (((rd_T46 l0 x7_1).f2.f1) != 4) = true := bne_iff_ne.mpr c29
           have H' := Aside0.mk H
           clear H
           have hnb36 := NB118_108.out
           have hnc36 := NB108_118.out
           have hcz37_0 : w25.cell? ⟨gb118, 0, none⟩ = some (.int .i64 0) := (blk_cell BK118.out 0).trans rfl
           have hcz37_1 : w25.cell? ⟨gb118, 1, none⟩ = some (.int .i64 0) := (blk_cell BK118.out 1).trans rfl
           have hcz37_2 : w25.cell? ⟨gb118, 2, none⟩ = some (.int .i64 0) := (blk_cell BK118.out 2).trans rfl
           have hcz37_3 : w25.cell? ⟨gb118, 3, none⟩ = some (.int .u8 0) := (blk_cell BK118.out 3).trans rfl
           have hcz37_4 : w25.cell? ⟨gb118, 4, none⟩ = some (.int .u8 0) := (blk_cell BK118.out 4).trans rfl
           have hcz37_5 : w25.cell? ⟨gb118, 5, none⟩ = some (.int .u8 0) := (blk_cell BK118.out 5).trans rfl
           have hcz37_6 : w25.cell? ⟨gb118, 6, none⟩ = some (.int .u8 0) := (blk_cell BK118.out 6).trans rfl
           have hcz37_7 : w25.cell? ⟨gb118, 7, none⟩ = some (.int .u8 0) := (blk_cell BK118.out 7).trans rfl
           have hcz37_8 : w25.cell? ⟨gb118, 8, none⟩ = some (.int .u8 0) := (blk_cell BK118.out 8).trans rfl
           have hcz37_9 : w25.cell? ⟨gb118, 9, none⟩ = some (.slice none 0 0) := (blk_cell BK118.out 9).trans rfl
           have hcz37_10 : w25.cell? ⟨gb118, 10, none⟩ = some (.int .i64 0) := (blk_cell BK118.out 10).trans rfl
           have hfz37_0 := blk_frozen BK118.out 0
           have hfz37_1 := blk_frozen BK118.out 1
           have hfz37_2 := blk_frozen BK118.out 2
           have hfz37_3 := blk_frozen BK118.out 3
           have hfz37_4 := blk_frozen BK118.out 4
           have hfz37_5 := blk_frozen BK118.out 5
           have hfz37_6 := blk_frozen BK118.out 6
           have hfz37_7 := blk_frozen BK118.out 7
           have hfz37_8 := blk_frozen BK118.out 8
           have hfz37_9 := blk_frozen BK118.out 9
           have hfz37_10 := blk_frozen BK118.out 10
           go_wp2
           go_meet
           case rel => exact ⟨_, (true), (by first | rfl | (simp; done) | (simp [*]; done)), H', ⟨by have := HK1.out; first | omega | exact Nat.le_refl _⟩, ⟨by (with_reducible repeat (first | apply Kd.N_alloc | apply Kd.N_drewN | apply Kd.N_drew)); exact Kd.N_mono (Kd.N_far (p := ⟨gb118, 10, none⟩) (Kd.N_far (p := ⟨gb118, 9, none⟩) (Kd.N_far (p := ⟨gb118, 8, none⟩) (Kd.N_far (p := ⟨gb118, 7, none⟩) (Kd.N_far (p := ⟨gb118, 6, none⟩) (Kd.N_far (p := ⟨gb118, 5, none⟩) (Kd.N_far (p := ⟨gb118, 4, none⟩) (Kd.N_far (p := ⟨gb118, 3, none⟩) (Kd.N_far (p := ⟨gb118, 2, none⟩) (Kd.N_far (p := ⟨gb118, 1, none⟩) (Kd.N_far (p := ⟨gb118, 0, none⟩) (Kd.N_mono HO_4.out (fun k_ hk => (⟨hk, hk.2⟩ : _ ∧ k_ ≠ gb118))) (fun _ hk => hk.2) (.int .i64 ((rd_T46 l0 x7_1).f2.f0))) (fun _ hk => hk.2) (.int .i64 ((rd_T46 l0 x7_1).f2.f1))) (fun _ hk => hk.2) (.int .i64 ((rd_T46 l0 x7_1).f2.f2))) (fun _ hk => hk.2) (.int .u8 ((rd_T46 l0 x7_1).f2.f3.f0))) (fun _ hk => hk.2) (.int .u8 ((rd_T46 l0 x7_1).f2.f3.f1))) (fun _ hk => hk.2) (.int .u8 ((rd_T46 l0 x7_1).f2.f3.f2))) (fun _ hk => hk.2) (.int .u8 ((rd_T46 l0 x7_1).f2.f3.f3))) (fun _ hk => hk.2) (.int .u8 ((rd_T46 l0 x7_1).f2.f3.f4))) (fun _ hk => hk.2) (.int .u8 ((rd_T46 l0 x7_1).f2.f3.f5))) (fun _ hk => hk.2) (.slice A117_11 ((rd_T46 l0 x7_1).f2.f4).length c117_11)) (fun _ hk => hk.2) (.int .i64 ((rd_T46 l0 x7_1).f2.f5))) (fun _ hk => ⟨hk.1.1, hk.1.2⟩)⟩, ⟨by (with_reducible repeat (first | refine blk_drewN ?_ _ | refine blk_drew ?_ | refine blk_alloc ?_ _)); refine blk_far ?_ NB108_118.out _; (with_reducible repeat (first | refine blk_drewN ?_ _ | refine blk_drew ?_ | refine blk_alloc ?_ _)); refine blk_far ?_ NB108_118.out _; (with_reducible repeat (first | refine blk_drewN ?_ _ | refine blk_drew ?_ | refine blk_alloc ?_ _)); refine blk_far ?_ NB108_118.out _; (with_reducible repeat (first | refine blk_drewN ?_ _ | refine blk_drew ?_ | refine blk_alloc ?_ _)); refine blk_far ?_ NB108_118.out _; (with_reducible repeat (first | refine blk_drewN ?_ _ | refine blk_drew ?_ | refine blk_alloc ?_ _)); refine blk_far ?_ NB108_118.out _; (with_reducible repeat (first | refine blk_drewN ?_ _ | refine blk_drew ?_ | refine blk_alloc ?_ _)); refine blk_far ?_ NB108_118.out _; (with_reducible repeat (first | refine blk_drewN ?_ _ | refine blk_drew ?_ | refine blk_alloc ?_ _)); refine blk_far ?_ NB108_118.out _; (with_reducible repeat (first | refine blk_drewN ?_ _ | refine blk_drew ?_ | refine blk_alloc ?_ _)); refine blk_far ?_ NB108_118.out _; (with_reducible repeat (first | refine blk_drewN ?_ _ | refine blk_drew ?_ | refine blk_alloc ?_ _)); refine blk_far ?_ NB108_118.out _; (with_reducible repeat (first | refine blk_drewN ?_ _ | refine blk_drew ?_ | refine blk_alloc ?_ _)); refine blk_far ?_ NB108_118.out _; (with_reducible repeat (first | refine blk_drewN ?_ _ | refine blk_drew ?_ | refine blk_alloc ?_ _)); refine blk_far ?_ NB108_118.out _; (with_reducible repeat (first | refine blk_drewN ?_ _ | refine blk_drew ?_ | refine blk_alloc ?_ _)); exact BK108.out⟩, ⟨by (with_reducible repeat (first | refine blk_drewN ?_ _ | refine blk_drew ?_ | refine blk_alloc ?_ _)); refine blk_put (cs := #[.int .i64 ((rd_T46 l0 x7_1).f2.f0), .int .i64 ((rd_T46 l0 x7_1).f2.f1), .int .i64 ((rd_T46 l0 x7_1).f2.f2), .int .u8 ((rd_T46 l0 x7_1).f2.f3.f0), .int .u8 ((rd_T46 l0 x7_1).f2.f3.f1), .int .u8 ((rd_T46 l0 x7_1).f2.f3.f2), .int .u8 ((rd_T46 l0 x7_1).f2.f3.f3), .int .u8 ((rd_T46 l0 x7_1).f2.f3.f4), .int .u8 ((rd_T46 l0 x7_1).f2.f3.f5), .slice A117_11 ((rd_T46 l0 x7_1).f2.f4).length c117_11, .int .i64 0]) ?_ 10 _ rfl; (with_reducible repeat (first | refine blk_drewN ?_ _ | refine blk_drew ?_ | refine blk_alloc ?_ _)); refine blk_put (cs := #[.int .i64 ((rd_T46 l0 x7_1).f2.f0), .int .i64 ((rd_T46 l0 x7_1).f2.f1), .int .i64 ((rd_T46 l0 x7_1).f2.f2), .int .u8 ((rd_T46 l0 x7_1).f2.f3.f0), .int .u8 ((rd_T46 l0 x7_1).f2.f3.f1), .int .u8 ((rd_T46 l0 x7_1).f2.f3.f2), .int .u8 ((rd_T46 l0 x7_1).f2.f3.f3), .int .u8 ((rd_T46 l0 x7_1).f2.f3.f4), .int .u8 ((rd_T46 l0 x7_1).f2.f3.f5), .slice none 0 0, .int .i64 0]) ?_ 9 _ rfl; (with_reducible repeat (first | refine blk_drewN ?_ _ | refine blk_drew ?_ | refine blk_alloc ?_ _)); refine blk_put (cs := #[.int .i64 ((rd_T46 l0 x7_1).f2.f0), .int .i64 ((rd_T46 l0 x7_1).f2.f1), .int .i64 ((rd_T46 l0 x7_1).f2.f2), .int .u8 ((rd_T46 l0 x7_1).f2.f3.f0), .int .u8 ((rd_T46 l0 x7_1).f2.f3.f1), .int .u8 ((rd_T46 l0 x7_1).f2.f3.f2), .int .u8 ((rd_T46 l0 x7_1).f2.f3.f3), .int .u8 ((rd_T46 l0 x7_1).f2.f3.f4), .int .u8 0, .slice none 0 0, .int .i64 0]) ?_ 8 _ rfl; (with_reducible repeat (first | refine blk_drewN ?_ _ | refine blk_drew ?_ | refine blk_alloc ?_ _)); refine blk_put (cs := #[.int .i64 ((rd_T46 l0 x7_1).f2.f0), .int .i64 ((rd_T46 l0 x7_1).f2.f1), .int .i64 ((rd_T46 l0 x7_1).f2.f2), .int .u8 ((rd_T46 l0 x7_1).f2.f3.f0), .int .u8 ((rd_T46 l0 x7_1).f2.f3.f1), .int .u8 ((rd_T46 l0 x7_1).f2.f3.f2), .int .u8 ((rd_T46 l0 x7_1).f2.f3.f3), .int .u8 0, .int .u8 0, .slice none 0 0, .int .i64 0]) ?_ 7 _ rfl; (with_reducible repeat (first | refine blk_drewN ?_ _ | refine blk_drew ?_ | refine blk_alloc ?_ _)); refine blk_put (cs := #[.int .i64 ((rd_T46 l0 x7_1).f2.f0), .int .i64 ((rd_T46 l0 x7_1).f2.f1), .int .i64 ((rd_T46 l0 x7_1).f2.f2), .int .u8 ((rd_T46 l0 x7_1).f2.f3.f0), .int .u8 ((rd_T46 l0 x7_1).f2.f3.f1), .int .u8 ((rd_T46 l0 x7_1).f2.f3.f2), .int .u8 0, .int .u8 0, .int .u8 0, .slice none 0 0, .int .i64 0]) ?_ 6 _ rfl; (with_reducible repeat (first | refine blk_drewN ?_ _ | refine blk_drew ?_ | refine blk_alloc ?_ _)); refine blk_put (cs := #[.int .i64 ((rd_T46 l0 x7_1).f2.f0), .int .i64 ((rd_T46 l0 x7_1).f2.f1), .int .i64 ((rd_T46 l0 x7_1).f2.f2), .int .u8 ((rd_T46 l0 x7_1).f2.f3.f0), .int .u8 ((rd_T46 l0 x7_1).f2.f3.f1), .int .u8 0, .int .u8 0, .int .u8 0, .int .u8 0, .slice none 0 0, .int .i64 0]) ?_ 5 _ rfl; (with_reducible repeat (first | refine blk_drewN ?_ _ | refine blk_drew ?_ | refine blk_alloc ?_ _)); refine blk_put (cs := #[.int .i64 ((rd_T46 l0 x7_1).f2.f0), .int .i64 ((rd_T46 l0 x7_1).f2.f1), .int .i64 ((rd_T46 l0 x7_1).f2.f2), .int .u8 ((rd_T46 l0 x7_1).f2.f3.f0), .int .u8 0, .int .u8 0, .int .u8 0, .int .u8 0, .int .u8 0, .slice none 0 0, .int .i64 0]) ?_ 4 _ rfl; (with_reducible repeat (first | refine blk_drewN ?_ _ | refine blk_drew ?_ | refine blk_alloc ?_ _)); refine blk_put (cs := #[.int .i64 ((rd_T46 l0 x7_1).f2.f0), .int .i64 ((rd_T46 l0 x7_1).f2.f1), .int .i64 ((rd_T46 l0 x7_1).f2.f2), .int .u8 0, .int .u8 0, .int .u8 0, .int .u8 0, .int .u8 0, .int .u8 0, .slice none 0 0, .int .i64 0]) ?_ 3 _ rfl; (with_reducible repeat (first | refine blk_drewN ?_ _ | refine blk_drew ?_ | refine blk_alloc ?_ _)); refine blk_put (cs := #[.int .i64 ((rd_T46 l0 x7_1).f2.f0), .int .i64 ((rd_T46 l0 x7_1).f2.f1), .int .i64 0, .int .u8 0, .int .u8 0, .int .u8 0, .int .u8 0, .int .u8 0, .int .u8 0, .slice none 0 0, .int .i64 0]) ?_ 2 _ rfl; (with_reducible repeat (first | refine blk_drewN ?_ _ | refine blk_drew ?_ | refine blk_alloc ?_ _)); refine blk_put (cs := #[.int .i64 ((rd_T46 l0 x7_1).f2.f0), .int .i64 0, .int .i64 0, .int .u8 0, .int .u8 0, .int .u8 0, .int .u8 0, .int .u8 0, .int .u8 0, .slice none 0 0, .int .i64 0]) ?_ 1 _ rfl; (with_reducible repeat (first | refine blk_drewN ?_ _ | refine blk_drew ?_ | refine blk_alloc ?_ _)); refine blk_put (cs := #[.int .i64 0, .int .i64 0, .int .i64 0, .int .u8 0, .int .u8 0, .int .u8 0, .int .u8 0, .int .u8 0, .int .u8 0, .slice none 0 0, .int .i64 0]) ?_ 0 _ rfl; (with_reducible repeat (first | refine blk_drewN ?_ _ | refine blk_drew ?_ | refine blk_alloc ?_ _)); exact BK118.out⟩, ⟨by repeat (first | (with_reducible first | exact HB.out | apply below_alloc | apply pw_below_drewN | apply below_drew1 | refine below_set ?_ GE108.out | refine below_set ?_ GE118.out) | exact HB.out)⟩⟩
         ·rw [if_neg c28] at H
          have c28b0 : (((rd_T46 l0 x7_1).f2.f0) == 9) = false := beq_eq_false_iff_ne.mpr c28
          have c28b1 : (((rd_T46 l0 x7_1).f2.f0) != 9) = true := bne_iff_ne.mpr c28
          (first | rw [c28b0] | (simp only [i64_w, i32_w]; rw [c28b0]) | skip)
          have H' := Aside0.mk H
          clear H
          have hnb38 := NB118_108.out
          have hnc38 := NB108_118.out
          have hcz39_0 : w25.cell? ⟨gb118, 0, none⟩ = some (.int .i64 0) := (blk_cell BK118.out 0).trans rfl
          have hcz39_1 : w25.cell? ⟨gb118, 1, none⟩ = some (.int .i64 0) := (blk_cell BK118.out 1).trans rfl
          have hcz39_2 : w25.cell? ⟨gb118, 2, none⟩ = some (.int .i64 0) := (blk_cell BK118.out 2).trans rfl
          have hcz39_3 : w25.cell? ⟨gb118, 3, none⟩ = some (.int .u8 0) := (blk_cell BK118.out 3).trans rfl
          have hcz39_4 : w25.cell? ⟨gb118, 4, none⟩ = some (.int .u8 0) := (blk_cell BK118.out 4).trans rfl
          have hcz39_5 : w25.cell? ⟨gb118, 5, none⟩ = some (.int .u8 0) := (blk_cell BK118.out 5).trans rfl
          have hcz39_6 : w25.cell? ⟨gb118, 6, none⟩ = some (.int .u8 0) := (blk_cell BK118.out 6).trans rfl
          have hcz39_7 : w25.cell? ⟨gb118, 7, none⟩ = some (.int .u8 0) := (blk_cell BK118.out 7).trans rfl
          have hcz39_8 : w25.cell? ⟨gb118, 8, none⟩ = some (.int .u8 0) := (blk_cell BK118.out 8).trans rfl
          have hcz39_9 : w25.cell? ⟨gb118, 9, none⟩ = some (.slice none 0 0) := (blk_cell BK118.out 9).trans rfl
          have hcz39_10 : w25.cell? ⟨gb118, 10, none⟩ = some (.int .i64 0) := (blk_cell BK118.out 10).trans rfl
          have hfz39_0 := blk_frozen BK118.out 0
          have hfz39_1 := blk_frozen BK118.out 1
          have hfz39_2 := blk_frozen BK118.out 2
          have hfz39_3 := blk_frozen BK118.out 3
          have hfz39_4 := blk_frozen BK118.out 4
          have hfz39_5 := blk_frozen BK118.out 5
          have hfz39_6 := blk_frozen BK118.out 6
          have hfz39_7 := blk_frozen BK118.out 7
          have hfz39_8 := blk_frozen BK118.out 8
          have hfz39_9 := blk_frozen BK118.out 9
          have hfz39_10 := blk_frozen BK118.out 10
          go_wp2
          go_meet
          case rel => exact ⟨_, (true), (by first | rfl | (simp; done) | (simp [*]; done)), H', ⟨by have := HK1.out; first | omega | exact Nat.le_refl _⟩, ⟨by (with_reducible repeat (first | apply Kd.N_alloc | apply Kd.N_drewN | apply Kd.N_drew)); exact Kd.N_mono (Kd.N_far (p := ⟨gb118, 10, none⟩) (Kd.N_far (p := ⟨gb118, 9, none⟩) (Kd.N_far (p := ⟨gb118, 8, none⟩) (Kd.N_far (p := ⟨gb118, 7, none⟩) (Kd.N_far (p := ⟨gb118, 6, none⟩) (Kd.N_far (p := ⟨gb118, 5, none⟩) (Kd.N_far (p := ⟨gb118, 4, none⟩) (Kd.N_far (p := ⟨gb118, 3, none⟩) (Kd.N_far (p := ⟨gb118, 2, none⟩) (Kd.N_far (p := ⟨gb118, 1, none⟩) (Kd.N_far (p := ⟨gb118, 0, none⟩) (Kd.N_mono HO_4.out (fun k_ hk => (⟨hk, hk.2⟩ : _ ∧ k_ ≠ gb118))) (fun _ hk => hk.2) (.int .i64 ((rd_T46 l0 x7_1).f2.f0))) (fun _ hk => hk.2) (.int .i64 ((rd_T46 l0 x7_1).f2.f1))) (fun _ hk => hk.2) (.int .i64 ((rd_T46 l0 x7_1).f2.f2))) (fun _ hk => hk.2) (.int .u8 ((rd_T46 l0 x7_1).f2.f3.f0))) (fun _ hk => hk.2) (.int .u8 ((rd_T46 l0 x7_1).f2.f3.f1))) (fun _ hk => hk.2) (.int .u8 ((rd_T46 l0 x7_1).f2.f3.f2))) (fun _ hk => hk.2) (.int .u8 ((rd_T46 l0 x7_1).f2.f3.f3))) (fun _ hk => hk.2) (.int .u8 ((rd_T46 l0 x7_1).f2.f3.f4))) (fun _ hk => hk.2) (.int .u8 ((rd_T46 l0 x7_1).f2.f3.f5))) (fun _ hk => hk.2) (.slice A117_11 ((rd_T46 l0 x7_1).f2.f4).length c117_11)) (fun _ hk => hk.2) (.int .i64 ((rd_T46 l0 x7_1).f2.f5))) (fun _ hk => ⟨hk.1.1, hk.1.2⟩)⟩, ⟨by (with_reducible repeat (first | refine blk_drewN ?_ _ | refine blk_drew ?_ | refine blk_alloc ?_ _)); refine blk_far ?_ NB108_118.out _; (with_reducible repeat (first | refine blk_drewN ?_ _ | refine blk_drew ?_ | refine blk_alloc ?_ _)); refine blk_far ?_ NB108_118.out _; (with_reducible repeat (first | refine blk_drewN ?_ _ | refine blk_drew ?_ | refine blk_alloc ?_ _)); refine blk_far ?_ NB108_118.out _; (with_reducible repeat (first | refine blk_drewN ?_ _ | refine blk_drew ?_ | refine blk_alloc ?_ _)); refine blk_far ?_ NB108_118.out _; (with_reducible repeat (first | refine blk_drewN ?_ _ | refine blk_drew ?_ | refine blk_alloc ?_ _)); refine blk_far ?_ NB108_118.out _; (with_reducible repeat (first | refine blk_drewN ?_ _ | refine blk_drew ?_ | refine blk_alloc ?_ _)); refine blk_far ?_ NB108_118.out _; (with_reducible repeat (first | refine blk_drewN ?_ _ | refine blk_drew ?_ | refine blk_alloc ?_ _)); refine blk_far ?_ NB108_118.out _; (with_reducible repeat (first | refine blk_drewN ?_ _ | refine blk_drew ?_ | refine blk_alloc ?_ _)); refine blk_far ?_ NB108_118.out _; (with_reducible repeat (first | refine blk_drewN ?_ _ | refine blk_drew ?_ | refine blk_alloc ?_ _)); refine blk_far ?_ NB108_118.out _; (with_reducible repeat (first | refine blk_drewN ?_ _ | refine blk_drew ?_ | refine blk_alloc ?_ _)); refine blk_far ?_ NB108_118.out _; (with_reducible repeat (first | refine blk_drewN ?_ _ | refine blk_drew ?_ | refine blk_alloc ?_ _)); refine blk_far ?_ NB108_118.out _; (with_reducible repeat (first | refine blk_drewN ?_ _ | refine blk_drew ?_ | refine blk_alloc ?_ _)); exact BK108.out⟩, ⟨by (with_reducible repeat (first | refine blk_drewN ?_ _ | refine blk_drew ?_ | refine blk_alloc ?_ _)); refine blk_put (cs := #[.int .i64 ((rd_T46 l0 x7_1).f2.f0), .int .i64 ((rd_T46 l0 x7_1).f2.f1), .int .i64 ((rd_T46 l0 x7_1).f2.f2), .int .u8 ((rd_T46 l0 x7_1).f2.f3.f0), .int .u8 ((rd_T46 l0 x7_1).f2.f3.f1), .int .u8 ((rd_T46 l0 x7_1).f2.f3.f2), .int .u8 ((rd_T46 l0 x7_1).f2.f3.f3), .int .u8 ((rd_T46 l0 x7_1).f2.f3.f4), .int .u8 ((rd_T46 l0 x7_1).f2.f3.f5), .slice A117_11 ((rd_T46 l0 x7_1).f2.f4).length c117_11, .int .i64 0]) ?_ 10 _ rfl; (with_reducible repeat (first | refine blk_drewN ?_ _ | refine blk_drew ?_ | refine blk_alloc ?_ _)); refine blk_put (cs := #[.int .i64 ((rd_T46 l0 x7_1).f2.f0), .int .i64 ((rd_T46 l0 x7_1).f2.f1), .int .i64 ((rd_T46 l0 x7_1).f2.f2), .int .u8 ((rd_T46 l0 x7_1).f2.f3.f0), .int .u8 ((rd_T46 l0 x7_1).f2.f3.f1), .int .u8 ((rd_T46 l0 x7_1).f2.f3.f2), .int .u8 ((rd_T46 l0 x7_1).f2.f3.f3), .int .u8 ((rd_T46 l0 x7_1).f2.f3.f4), .int .u8 ((rd_T46 l0 x7_1).f2.f3.f5), .slice none 0 0, .int .i64 0]) ?_ 9 _ rfl; (with_reducible repeat (first | refine blk_drewN ?_ _ | refine blk_drew ?_ | refine blk_alloc ?_ _)); refine blk_put (cs := #[.int .i64 ((rd_T46 l0 x7_1).f2.f0), .int .i64 ((rd_T46 l0 x7_1).f2.f1), .int .i64 ((rd_T46 l0 x7_1).f2.f2), .int .u8 ((rd_T46 l0 x7_1).f2.f3.f0), .int .u8 ((rd_T46 l0 x7_1).f2.f3.f1), .int .u8 ((rd_T46 l0 x7_1).f2.f3.f2), .int .u8 ((rd_T46 l0 x7_1).f2.f3.f3), .int .u8 ((rd_T46 l0 x7_1).f2.f3.f4), .int .u8 0, .slice none 0 0, .int .i64 0]) ?_ 8 _ rfl; (with_reducible repeat (first | refine blk_drewN ?_ _ | refine blk_drew ?_ | refine blk_alloc ?_ _)); refine blk_put (cs := #[.int .i64 ((rd_T46 l0 x7_1).f2.f0), .int .i64 ((rd_T46 l0 x7_1).f2.f1), .int .i64 ((rd_T46 l0 x7_1).f2.f2), .int .u8 ((rd_T46 l0 x7_1).f2.f3.f0), .int .u8 ((rd_T46 l0 x7_1).f2.f3.f1), .int .u8 ((rd_T46 l0 x7_1).f2.f3.f2), .int .u8 ((rd_T46 l0 x7_1).f2.f3.f3), .int .u8 0, .int .u8 0, .slice none 0 0, .int .i64 0]) ?_ 7 _ rfl; (with_reducible repeat (first | refine blk_drewN ?_ _ | refine blk_drew ?_ | refine blk_alloc ?_ _)); refine blk_put (cs := #[.int .i64 ((rd_T46 l0 x7_1).f2.f0), .int .i64 ((rd_T46 l0 x7_1).f2.f1), .int .i64 ((rd_T46 l0 x7_1).f2.f2), .int .u8 ((rd_T46 l0 x7_1).f2.f3.f0), .int .u8 ((rd_T46 l0 x7_1).f2.f3.f1), .int .u8 ((rd_T46 l0 x7_1).f2.f3.f2), .int .u8 0, .int .u8 0, .int .u8 0, .slice none 0 0, .int .i64 0]) ?_ 6 _ rfl; (with_reducible repeat (first | refine blk_drewN ?_ _ | refine blk_drew ?_ | refine blk_alloc ?_ _)); refine blk_put (cs := #[.int .i64 ((rd_T46 l0 x7_1).f2.f0), .int .i64 ((rd_T46 l0 x7_1).f2.f1), .int .i64 ((rd_T46 l0 x7_1).f2.f2), .int .u8 ((rd_T46 l0 x7_1).f2.f3.f0), .int .u8 ((rd_T46 l0 x7_1).f2.f3.f1), .int .u8 0, .int .u8 0, .int .u8 0, .int .u8 0, .slice none 0 0, .int .i64 0]) ?_ 5 _ rfl; (with_reducible repeat (first | refine blk_drewN ?_ _ | refine blk_drew ?_ | refine blk_alloc ?_ _)); refine blk_put (cs := #[.int .i64 ((rd_T46 l0 x7_1).f2.f0), .int .i64 ((rd_T46 l0 x7_1).f2.f1), .int .i64 ((rd_T46 l0 x7_1).f2.f2), .int .u8 ((rd_T46 l0 x7_1).f2.f3.f0), .int .u8 0, .int .u8 0, .int .u8 0, .int .u8 0, .int .u8 0, .slice none 0 0, .int .i64 0]) ?_ 4 _ rfl; (with_reducible repeat (first | refine blk_drewN ?_ _ | refine blk_drew ?_ | refine blk_alloc ?_ _)); refine blk_put (cs := #[.int .i64 ((rd_T46 l0 x7_1).f2.f0), .int .i64 ((rd_T46 l0 x7_1).f2.f1), .int .i64 ((rd_T46 l0 x7_1).f2.f2), .int .u8 0, .int .u8 0, .int .u8 0, .int .u8 0, .int .u8 0, .int .u8 0, .slice none 0 0, .int .i64 0]) ?_ 3 _ rfl; (with_reducible repeat (first | refine blk_drewN ?_ _ | refine blk_drew ?_ | refine blk_alloc ?_ _)); refine blk_put (cs := #[.int .i64 ((rd_T46 l0 x7_1).f2.f0), .int .i64 ((rd_T46 l0 x7_1).f2.f1), .int .i64 0, .int .u8 0, .int .u8 0, .int .u8 0, .int .u8 0, .int .u8 0, .int .u8 0, .slice none 0 0, .int .i64 0]) ?_ 2 _ rfl; (with_reducible repeat (first | refine blk_drewN ?_ _ | refine blk_drew ?_ | refine blk_alloc ?_ _)); refine blk_put (cs := #[.int .i64 ((rd_T46 l0 x7_1).f2.f0), .int .i64 0, .int .i64 0, .int .u8 0, .int .u8 0, .int .u8 0, .int .u8 0, .int .u8 0, .int .u8 0, .slice none 0 0, .int .i64 0]) ?_ 1 _ rfl; (with_reducible repeat (first | refine blk_drewN ?_ _ | refine blk_drew ?_ | refine blk_alloc ?_ _)); refine blk_put (cs := #[.int .i64 0, .int .i64 0, .int .i64 0, .int .u8 0, .int .u8 0, .int .u8 0, .int .u8 0, .int .u8 0, .int .u8 0, .slice none 0 0, .int .i64 0]) ?_ 0 _ rfl; (with_reducible repeat (first | refine blk_drewN ?_ _ | refine blk_drew ?_ | refine blk_alloc ?_ _)); exact BK118.out⟩, ⟨by repeat (first | (with_reducible first | exact HB.out | apply below_alloc | apply pw_below_drewN | apply below_drew1 | refine below_set ?_ GE108.out | refine below_set ?_ GE118.out) | exact HB.out)⟩⟩
        case rest =>
         clear HC24
         try clear c1
         try clear p1
         try clear q1
         try clear hx1
         try clear c2
         try clear p2
         try clear c3
         try clear c4
         try clear c4b0
         try clear c4b1
         try clear c8
         try clear c11
         try clear p11
         try clear q11
         try clear hx11
         try clear c15
         try clear c16
         try clear c17
         try clear c18
         try clear c18b0
         try clear c19
         try clear c19b0
         try clear c20
         try clear c20b0
         try clear c20b1
         try clear c22
         try clear c26
         try clear c28
         try clear c28b0
         try clear c28b1
         try clear c29
         try clear c29b0
         try clear c29b1
         try clear c30
         try clear c30b0
         try clear c30b1
         try clear c31
         try clear c34
         try clear c36
         try clear c38
         try clear hcz12_0
         try clear hcz12_1
         try clear hcz12_2
         try clear hcz12_3
         try clear hcz12_4
         try clear hcz12_5
         try clear hcz23_0
         try clear hcz23_1
         try clear hcz23_10
         try clear hcz23_2
         try clear hcz23_3
         try clear hcz23_4
         try clear hcz23_5
         try clear hcz23_6
         try clear hcz23_7
         try clear hcz23_8
         try clear hcz23_9
         try clear hcz27_0
         try clear hcz27_1
         try clear hcz27_10
         try clear hcz27_2
         try clear hcz27_3
         try clear hcz27_4
         try clear hcz27_5
         try clear hcz27_6
         try clear hcz27_7
         try clear hcz27_8
         try clear hcz27_9
         try clear hcz32_0
         try clear hcz32_1
         try clear hcz32_10
         try clear hcz32_2
         try clear hcz32_3
         try clear hcz32_4
         try clear hcz32_5
         try clear hcz32_6
         try clear hcz32_7
         try clear hcz32_8
         try clear hcz32_9
         try clear hcz33_0
         try clear hcz33_1
         try clear hcz33_2
         try clear hcz33_3
         try clear hcz33_4
         try clear hcz33_5
         try clear hcz35_0
         try clear hcz35_1
         try clear hcz35_10
         try clear hcz35_2
         try clear hcz35_3
         try clear hcz35_4
         try clear hcz35_5
         try clear hcz35_6
         try clear hcz35_7
         try clear hcz35_8
         try clear hcz35_9
         try clear hcz37_0
         try clear hcz37_1
         try clear hcz37_10
         try clear hcz37_2
         try clear hcz37_3
         try clear hcz37_4
         try clear hcz37_5
         try clear hcz37_6
         try clear hcz37_7
         try clear hcz37_8
         try clear hcz37_9
         try clear hcz39_0
         try clear hcz39_1
         try clear hcz39_10
         try clear hcz39_2
         try clear hcz39_3
         try clear hcz39_4
         try clear hcz39_5
         try clear hcz39_6
         try clear hcz39_7
         try clear hcz39_8
         try clear hcz39_9
         try clear hfz12_0
         try clear hfz12_1
         try clear hfz12_2
         try clear hfz12_3
         try clear hfz12_4
         try clear hfz12_5
         try clear hfz23_0
         try clear hfz23_1
         try clear hfz23_10
         try clear hfz23_2
         try clear hfz23_3
         try clear hfz23_4
         try clear hfz23_5
         try clear hfz23_6
         try clear hfz23_7
         try clear hfz23_8
         try clear hfz23_9
         try clear hfz27_0
         try clear hfz27_1
         try clear hfz27_10
         try clear hfz27_2
         try clear hfz27_3
         try clear hfz27_4
         try clear hfz27_5
         try clear hfz27_6
         try clear hfz27_7
         try clear hfz27_8
         try clear hfz27_9
         try clear hfz32_0
         try clear hfz32_1
         try clear hfz32_10
         try clear hfz32_2
         try clear hfz32_3
         try clear hfz32_4
         try clear hfz32_5
         try clear hfz32_6
         try clear hfz32_7
         try clear hfz32_8
         try clear hfz32_9
         try clear hfz33_0
         try clear hfz33_1
         try clear hfz33_2
         try clear hfz33_3
         try clear hfz33_4
         try clear hfz33_5
         try clear hfz35_0
         try clear hfz35_1
         try clear hfz35_10
         try clear hfz35_2
         try clear hfz35_3
         try clear hfz35_4
         try clear hfz35_5
         try clear hfz35_6
         try clear hfz35_7
         try clear hfz35_8
         try clear hfz35_9
         try clear hfz37_0
         try clear hfz37_1
         try clear hfz37_10
         try clear hfz37_2
         try clear hfz37_3
         try clear hfz37_4
         try clear hfz37_5
         try clear hfz37_6
         try clear hfz37_7
         try clear hfz37_8
         try clear hfz37_9
         try clear hfz39_0
         try clear hfz39_1
         try clear hfz39_10
         try clear hfz39_2
         try clear hfz39_3
         try clear hfz39_4
         try clear hfz39_5
         try clear hfz39_6
         try clear hfz39_7
         try clear hfz39_8
         try clear hfz39_9
         try clear hx117_0
         try clear hx117_1
         try clear hx117_10
         try clear hx117_11
         try clear hx117_12
         try clear hx117_2
         try clear hx117_3
         try clear hx117_4
         try clear hx117_5
         try clear hx117_6
         try clear hx117_7
         try clear hx117_8
         try clear hx117_9
         try clear p117
         try clear p2
         try clear q117
         obtain ⟨kq, x52_23, rfl, HA, HJ23, HO_4, BK108, BK118, HB⟩ := hcut
         cases kq with
         | zero => exact absurd HA.out (by simp [antiphonlaw26_LedgerEpochs.j1])
         | succ kj23 =>
          have H := HA.out
          clear HA
          simp only [antiphonlaw26_LedgerEpochs.j1] at H
          by_cases c40 : x52_23 = true
          ·subst c40
           have H1 : (antiphonlaw26_LedgerEpochs.l0 kj23 l0 t112 x5_1 x6_1 (wrap64 (x7_1 + 1)) t102 t103 t104 t105 t106 t107) = some r := by rw [if_pos rfl] at H; exact H
           clear H
           have H := H1
           clear H1
           have H' := Aside0.mk H
           clear H
           go_wp2
           go_roundg kj23
           case measure => have := HK1.out; have := HJ23.out; omega
           case rel => exact ⟨(x5_1), (x6_1), (wrap64 (x7_1 + 1)), (by first | rfl | (simp; done) | (simp [*]; done)), (by first | rfl | (simp; done) | (simp [*]; done)), (by first | rfl | (simp; done) | (simp [*]; done)), H', ⟨by have := HK1.out; have := HJ23.out; omega⟩, ⟨by (with_reducible repeat (first | apply Kd.N_alloc | apply Kd.N_drewN | apply Kd.N_drew)); exact Kd.N_mono HO_4.out (fun _ hk => hk.1)⟩, ⟨by (with_reducible repeat (first | refine blk_drewN ?_ _ | refine blk_drew ?_ | refine blk_alloc ?_ _)); exact BK108.out⟩, ⟨by repeat (first | (with_reducible first | exact HB.out | apply below_alloc | apply pw_below_drewN | apply below_drew1 | refine below_set ?_ GE108.out | refine below_set ?_ GE118.out) | exact HB.out)⟩⟩
          ·replace c40 := Bool.eq_false_iff.mpr c40
           subst c40
           have H1 : (if x5_1 < (t112.length : Int) then (if 0 ≤ x5_1 then (antiphonlaw26_LedgerEpochs.j2 kj23 l0 t112 x5_1 x6_1 x7_1 (x6_1 == (((rd_T47 t112 x5_1).f1).length : Int)) t102 t103 t104 t105 t106 t107 ((rd_T46 l0 x7_1).f2.f0) ((rd_T46 l0 x7_1).f2.f1) ((rd_T46 l0 x7_1).f2.f2) ((rd_T46 l0 x7_1).f2.f3.f0) ((rd_T46 l0 x7_1).f2.f3.f1) ((rd_T46 l0 x7_1).f2.f3.f2) ((rd_T46 l0 x7_1).f2.f3.f3) ((rd_T46 l0 x7_1).f2.f3.f4) ((rd_T46 l0 x7_1).f2.f3.f5) ((rd_T46 l0 x7_1).f2.f4) ((rd_T46 l0 x7_1).f2.f5)) else (none)) else (antiphonlaw26_LedgerEpochs.j2 kj23 l0 t112 x5_1 x6_1 x7_1 false t102 t103 t104 t105 t106 t107 ((rd_T46 l0 x7_1).f2.f0) ((rd_T46 l0 x7_1).f2.f1) ((rd_T46 l0 x7_1).f2.f2) ((rd_T46 l0 x7_1).f2.f3.f0) ((rd_T46 l0 x7_1).f2.f3.f1) ((rd_T46 l0 x7_1).f2.f3.f2) ((rd_T46 l0 x7_1).f2.f3.f3) ((rd_T46 l0 x7_1).f2.f3.f4) ((rd_T46 l0 x7_1).f2.f3.f5) ((rd_T46 l0 x7_1).f2.f4) ((rd_T46 l0 x7_1).f2.f5))) = some r := by rw [if_neg (show ¬ (false = true) by decide)] at H; exact H
           clear H
           have H := H1
           clear H1
           have HC41 := Aside0.mk H
           clear H
           go_upto_region 15 with (fail)
           go_cut [66] (fun v66 wc => ∃ (kq : Nat) (x66_40 : Bool), v66 = .bool x66_40 ∧ Aside0 (antiphonlaw26_LedgerEpochs.j2 kq l0 t112 x5_1 x6_1 x7_1 x66_40 t102 t103 t104 t105 t106 t107 ((rd_T46 l0 x7_1).f2.f0) ((rd_T46 l0 x7_1).f2.f1) ((rd_T46 l0 x7_1).f2.f2) ((rd_T46 l0 x7_1).f2.f3.f0) ((rd_T46 l0 x7_1).f2.f3.f1) ((rd_T46 l0 x7_1).f2.f3.f2) ((rd_T46 l0 x7_1).f2.f3.f3) ((rd_T46 l0 x7_1).f2.f3.f4) ((rd_T46 l0 x7_1).f2.f3.f5) ((rd_T46 l0 x7_1).f2.f4) ((rd_T46 l0 x7_1).f2.f5) = some r) ∧ Aside0 (kq ≤ kj23) ∧ Aside0 (Kd.N k47 47 wc w.heap.size (fun k_ => k_ ≠ gb108 ∧ k_ ≠ gb118) v113 t112) ∧ Aside0 (wc.heap[gb108]? = some (.cells #[.int .u8 t102, .int .u8 t103, .int .u8 t104, .int .u8 t105, .int .u8 t106, .int .u8 t107] 37 (0, 0))) ∧ Aside0 (wc.heap[gb118]? = some (.cells #[.int .i64 ((rd_T46 l0 x7_1).f2.f0), .int .i64 ((rd_T46 l0 x7_1).f2.f1), .int .i64 ((rd_T46 l0 x7_1).f2.f2), .int .u8 ((rd_T46 l0 x7_1).f2.f3.f0), .int .u8 ((rd_T46 l0 x7_1).f2.f3.f1), .int .u8 ((rd_T46 l0 x7_1).f2.f3.f2), .int .u8 ((rd_T46 l0 x7_1).f2.f3.f3), .int .u8 ((rd_T46 l0 x7_1).f2.f3.f4), .int .u8 ((rd_T46 l0 x7_1).f2.f3.f5), (.slice A117_11 ((rd_T46 l0 x7_1).f2.f4).length c117_11), .int .i64 ((rd_T46 l0 x7_1).f2.f5)] 44 (0, 0))) ∧ Aside0 (Below w.heap.size w wc))
           case first =>
            have H := HC41.out
            clear HC41
            by_cases c42 : x5_1 < (t112.length : Int)
            ·rw [if_pos c42] at H
             have c42b0 : decide (x5_1 < (t112.length : Int)) = true := decide_eq_true c42
             clear c42
             (first | rw [c42b0] | (simp only [i64_w, i32_w]; rw [c42b0]) | skip)
             by_cases c43 : 0 ≤ x5_1
             ·rw [if_pos c43] at H
              have c43b0 : decide (0 ≤ x5_1) = true := decide_eq_true c43
              clear c43
              have H' := Aside0.mk H
              clear H
              obtain ⟨Ao44, co44, eo44⟩ := Kd.N_slice HO_4.out
              subst eo44
              have p119 : 0 ≤ (x5_1 : Int) := of_decide_eq_true (by first | (with_reducible assumption) | assumption)
              have q119 : x5_1 < (t112.length : Int) := of_decide_eq_true (by first | (with_reducible assumption) | assumption)
              obtain ⟨ad119, A119_1, c119_1, e119, hx119_0, hx119_1, hl119_1, hi119_1⟩ := at_T47 (Kd.N_reads' HO_4.out).2.2 x5_1 p119 q119
              cases e119
              obtain ⟨ce119, hce119, hMe119, hcc119⟩ := Kd.N_get HO_4.out z47 x5_1 p119 (by first | exact q119 | exact of_decide_eq_true (by first | (with_reducible assumption) | assumption) | (have e_ := (Kd.N_reads' HO_4.out).1; omega))
              obtain ⟨ua119_1, uc119_1, rfl, ul119_1, ge119_1⟩ := k47_openF hMe119
              have hv119_1 := hcc119 1 _ rfl
              rw [add_field _ _ 1 (by omega)] at hv119_1
              replace hv119_1 := Option.some.inj (hv119_1.symm.trans hx119_1)
              injection hv119_1 with hva_ hvn_ hvc_
              rw [hva_] at ge119_1
              rw [hvc_] at ul119_1
              have HL119_1 := Aside0.mk (show Kd.V (Kd.slice 5 (Kd.int .u8)) 42 _ w.heap.size _ _ ((rd_T47 t112 x5_1).f1) from Kd.V_mk ul119_1 ge119_1)
              clear hva_ hvn_ hvc_ ge119_1 ul119_1
              clear hcc119 hce119
              have HR119_1 := Aside0.mk hi119_1
              have HC119_1 := Aside0.mk hl119_1
              clear hi119_1 hl119_1
              replace p119 := eq_true p119
              replace q119 := eq_true q119
              go_wp2
              go_meet
              case rel => exact ⟨_, ((x6_1 == (((rd_T47 t112 x5_1).f1).length : Int))), (by first | rfl | (simp; done) | (simp [*]; done)), H', ⟨by have := HK1.out; have := HJ23.out; first | omega | exact Nat.le_refl _⟩, ⟨by (with_reducible repeat (first | apply Kd.N_alloc | apply Kd.N_drewN | apply Kd.N_drew)); exact HO_4.out⟩, ⟨by (with_reducible repeat (first | refine blk_drewN ?_ _ | refine blk_drew ?_ | refine blk_alloc ?_ _)); exact BK108.out⟩, ⟨by (with_reducible repeat (first | refine blk_drewN ?_ _ | refine blk_drew ?_ | refine blk_alloc ?_ _)); exact BK118.out⟩, ⟨by repeat (first | (with_reducible first | exact HB.out | apply below_alloc | apply pw_below_drewN | apply below_drew1 | refine below_set ?_ GE108.out | refine below_set ?_ GE118.out) | exact HB.out)⟩⟩
             ·rw [if_neg c43] at H
              exact absurd H (by simp)
            ·rw [if_neg c42] at H
             have c42b0 : decide (x5_1 < (t112.length : Int)) = false := decide_eq_false c42
             clear c42
             (first | rw [c42b0] | (simp only [i64_w, i32_w]; rw [c42b0]) | skip)
             have H' := Aside0.mk H
             clear H
             obtain ⟨Ao45, co45, eo45⟩ := Kd.N_slice HO_4.out
             subst eo45
             go_wp2
             go_meet
             case rel => exact ⟨_, (false), (by first | rfl | (simp; done) | (simp [*]; done)), H', ⟨by have := HK1.out; have := HJ23.out; first | omega | exact Nat.le_refl _⟩, ⟨by (with_reducible repeat (first | apply Kd.N_alloc | apply Kd.N_drewN | apply Kd.N_drew)); exact HO_4.out⟩, ⟨by (with_reducible repeat (first | refine blk_drewN ?_ _ | refine blk_drew ?_ | refine blk_alloc ?_ _)); exact BK108.out⟩, ⟨by (with_reducible repeat (first | refine blk_drewN ?_ _ | refine blk_drew ?_ | refine blk_alloc ?_ _)); exact BK118.out⟩, ⟨by repeat (first | (with_reducible first | exact HB.out | apply below_alloc | apply pw_below_drewN | apply below_drew1 | refine below_set ?_ GE108.out | refine below_set ?_ GE118.out) | exact HB.out)⟩⟩
           case rest =>
            clear HC41
            try clear c1
            try clear p1
            try clear q1
            try clear hx1
            try clear c2
            try clear p2
            try clear c3
            try clear c4
            try clear c4b0
            try clear c4b1
            try clear p6
            try clear c8
            try clear c11
            try clear p11
            try clear q11
            try clear hx11
            try clear c15
            try clear c16
            try clear c17
            try clear c18
            try clear c18b0
            try clear c19
            try clear c19b0
            try clear c20
            try clear c20b0
            try clear c20b1
            try clear c22
            try clear c26
            try clear c28
            try clear c28b0
            try clear c28b1
            try clear c29
            try clear c29b0
            try clear c29b1
            try clear c30
            try clear c30b0
            try clear c30b1
            try clear c31
            try clear c34
            try clear c36
            try clear c38
            try clear c40
            try clear c42
            try clear c42b0
            try clear c43
            try clear c43b0
            try clear hcz12_0
            try clear hcz12_1
            try clear hcz12_2
            try clear hcz12_3
            try clear hcz12_4
            try clear hcz12_5
            try clear hcz23_0
            try clear hcz23_1
            try clear hcz23_10
            try clear hcz23_2
            try clear hcz23_3
            try clear hcz23_4
            try clear hcz23_5
            try clear hcz23_6
            try clear hcz23_7
            try clear hcz23_8
            try clear hcz23_9
            try clear hcz27_0
            try clear hcz27_1
            try clear hcz27_10
            try clear hcz27_2
            try clear hcz27_3
            try clear hcz27_4
            try clear hcz27_5
            try clear hcz27_6
            try clear hcz27_7
            try clear hcz27_8
            try clear hcz27_9
            try clear hcz32_0
            try clear hcz32_1
            try clear hcz32_10
            try clear hcz32_2
            try clear hcz32_3
            try clear hcz32_4
            try clear hcz32_5
            try clear hcz32_6
            try clear hcz32_7
            try clear hcz32_8
            try clear hcz32_9
            try clear hcz33_0
            try clear hcz33_1
            try clear hcz33_2
            try clear hcz33_3
            try clear hcz33_4
            try clear hcz33_5
            try clear hcz35_0
            try clear hcz35_1
            try clear hcz35_10
            try clear hcz35_2
            try clear hcz35_3
            try clear hcz35_4
            try clear hcz35_5
            try clear hcz35_6
            try clear hcz35_7
            try clear hcz35_8
            try clear hcz35_9
            try clear hcz37_0
            try clear hcz37_1
            try clear hcz37_10
            try clear hcz37_2
            try clear hcz37_3
            try clear hcz37_4
            try clear hcz37_5
            try clear hcz37_6
            try clear hcz37_7
            try clear hcz37_8
            try clear hcz37_9
            try clear hcz39_0
            try clear hcz39_1
            try clear hcz39_10
            try clear hcz39_2
            try clear hcz39_3
            try clear hcz39_4
            try clear hcz39_5
            try clear hcz39_6
            try clear hcz39_7
            try clear hcz39_8
            try clear hcz39_9
            try clear hfz12_0
            try clear hfz12_1
            try clear hfz12_2
            try clear hfz12_3
            try clear hfz12_4
            try clear hfz12_5
            try clear hfz23_0
            try clear hfz23_1
            try clear hfz23_10
            try clear hfz23_2
            try clear hfz23_3
            try clear hfz23_4
            try clear hfz23_5
            try clear hfz23_6
            try clear hfz23_7
            try clear hfz23_8
            try clear hfz23_9
            try clear hfz27_0
            try clear hfz27_1
            try clear hfz27_10
            try clear hfz27_2
            try clear hfz27_3
            try clear hfz27_4
            try clear hfz27_5
            try clear hfz27_6
            try clear hfz27_7
            try clear hfz27_8
            try clear hfz27_9
            try clear hfz32_0
            try clear hfz32_1
            try clear hfz32_10
            try clear hfz32_2
            try clear hfz32_3
            try clear hfz32_4
            try clear hfz32_5
            try clear hfz32_6
            try clear hfz32_7
            try clear hfz32_8
            try clear hfz32_9
            try clear hfz33_0
            try clear hfz33_1
            try clear hfz33_2
            try clear hfz33_3
            try clear hfz33_4
            try clear hfz33_5
            try clear hfz35_0
            try clear hfz35_1
            try clear hfz35_10
            try clear hfz35_2
            try clear hfz35_3
            try clear hfz35_4
            try clear hfz35_5
            try clear hfz35_6
            try clear hfz35_7
            try clear hfz35_8
            try clear hfz35_9
            try clear hfz37_0
            try clear hfz37_1
            try clear hfz37_10
            try clear hfz37_2
            try clear hfz37_3
            try clear hfz37_4
            try clear hfz37_5
            try clear hfz37_6
            try clear hfz37_7
            try clear hfz37_8
            try clear hfz37_9
            try clear hfz39_0
            try clear hfz39_1
            try clear hfz39_10
            try clear hfz39_2
            try clear hfz39_3
            try clear hfz39_4
            try clear hfz39_5
            try clear hfz39_6
            try clear hfz39_7
            try clear hfz39_8
            try clear hfz39_9
            try clear hx117_0
            try clear hx117_1
            try clear hx117_10
            try clear hx117_11
            try clear hx117_12
            try clear hx117_2
            try clear hx117_3
            try clear hx117_4
            try clear hx117_5
            try clear hx117_6
            try clear hx117_7
            try clear hx117_8
            try clear hx117_9
            try clear hx119_0
            try clear hx119_1
            try clear p1
            try clear p11
            try clear p117
            try clear p119
            try clear p2
            try clear q1
            try clear q11
            try clear q117
            try clear q119
            obtain ⟨kq, x66_40, rfl, HA, HJ40, HO_4, BK108, BK118, HB⟩ := hcut
            cases kq with
            | zero => exact absurd HA.out (by simp [antiphonlaw26_LedgerEpochs.j2])
            | succ kj40 =>
             have H := HA.out
             clear HA
             simp only [antiphonlaw26_LedgerEpochs.j2] at H
             by_cases c46 : x66_40 = true
             ·subst c46
              have H1 : (if (wrap64 (x5_1 + 1)) < (t112.length : Int) then (if 0 ≤ (wrap64 (x5_1 + 1)) then (if 0 ≤ (wrap64 ((wrap64 (x5_1 + 1)) - 1)) then (if (wrap64 ((wrap64 (x5_1 + 1)) - 1)) < (t112.length : Int) then (antiphonlaw26_LedgerEpochs.j3 kj40 l0 t112 (wrap64 (x5_1 + 1)) 0 x7_1 (((rd_T47 t112 (wrap64 (x5_1 + 1))).f0) == ((rd_T47 t112 (wrap64 ((wrap64 (x5_1 + 1)) - 1))).f0)) t102 t103 t104 t105 t106 t107 ((rd_T46 l0 x7_1).f2.f0) ((rd_T46 l0 x7_1).f2.f1) ((rd_T46 l0 x7_1).f2.f2) ((rd_T46 l0 x7_1).f2.f3.f0) ((rd_T46 l0 x7_1).f2.f3.f1) ((rd_T46 l0 x7_1).f2.f3.f2) ((rd_T46 l0 x7_1).f2.f3.f3) ((rd_T46 l0 x7_1).f2.f3.f4) ((rd_T46 l0 x7_1).f2.f3.f5) ((rd_T46 l0 x7_1).f2.f4) ((rd_T46 l0 x7_1).f2.f5)) else (none)) else (none)) else (none)) else (antiphonlaw26_LedgerEpochs.j3 kj40 l0 t112 (wrap64 (x5_1 + 1)) 0 x7_1 false t102 t103 t104 t105 t106 t107 ((rd_T46 l0 x7_1).f2.f0) ((rd_T46 l0 x7_1).f2.f1) ((rd_T46 l0 x7_1).f2.f2) ((rd_T46 l0 x7_1).f2.f3.f0) ((rd_T46 l0 x7_1).f2.f3.f1) ((rd_T46 l0 x7_1).f2.f3.f2) ((rd_T46 l0 x7_1).f2.f3.f3) ((rd_T46 l0 x7_1).f2.f3.f4) ((rd_T46 l0 x7_1).f2.f3.f5) ((rd_T46 l0 x7_1).f2.f4) ((rd_T46 l0 x7_1).f2.f5))) = some r := by rw [if_pos rfl] at H; exact H
              clear H
              have H := H1
              clear H1
              have HC47 := Aside0.mk H
              clear H
              go_upto_region 18 with (fail)
              generalize hy55 : wrap64 (x5_1 + 1) = y55 at HC47 ⊢
              clear hy55
              go_cut [86] (fun v86 wc => ∃ (kq : Nat) (x86_46 : Bool), v86 = .bool x86_46 ∧ Aside0 (antiphonlaw26_LedgerEpochs.j3 kq l0 t112 (y55) 0 x7_1 x86_46 t102 t103 t104 t105 t106 t107 ((rd_T46 l0 x7_1).f2.f0) ((rd_T46 l0 x7_1).f2.f1) ((rd_T46 l0 x7_1).f2.f2) ((rd_T46 l0 x7_1).f2.f3.f0) ((rd_T46 l0 x7_1).f2.f3.f1) ((rd_T46 l0 x7_1).f2.f3.f2) ((rd_T46 l0 x7_1).f2.f3.f3) ((rd_T46 l0 x7_1).f2.f3.f4) ((rd_T46 l0 x7_1).f2.f3.f5) ((rd_T46 l0 x7_1).f2.f4) ((rd_T46 l0 x7_1).f2.f5) = some r) ∧ Aside0 (kq ≤ kj40) ∧ Aside0 (Kd.N k47 47 wc w.heap.size (fun k_ => k_ ≠ gb108 ∧ k_ ≠ gb118) v113 t112) ∧ Aside0 (wc.heap[gb108]? = some (.cells #[.int .u8 t102, .int .u8 t103, .int .u8 t104, .int .u8 t105, .int .u8 t106, .int .u8 t107] 37 (0, 0))) ∧ Aside0 (wc.heap[gb118]? = some (.cells #[.int .i64 ((rd_T46 l0 x7_1).f2.f0), .int .i64 ((rd_T46 l0 x7_1).f2.f1), .int .i64 ((rd_T46 l0 x7_1).f2.f2), .int .u8 ((rd_T46 l0 x7_1).f2.f3.f0), .int .u8 ((rd_T46 l0 x7_1).f2.f3.f1), .int .u8 ((rd_T46 l0 x7_1).f2.f3.f2), .int .u8 ((rd_T46 l0 x7_1).f2.f3.f3), .int .u8 ((rd_T46 l0 x7_1).f2.f3.f4), .int .u8 ((rd_T46 l0 x7_1).f2.f3.f5), (.slice A117_11 ((rd_T46 l0 x7_1).f2.f4).length c117_11), .int .i64 ((rd_T46 l0 x7_1).f2.f5)] 44 (0, 0))) ∧ Aside0 (Below w.heap.size w wc))
              case first =>
               have H := HC47.out
               clear HC47
               by_cases c48 : (y55) < (t112.length : Int)
               ·rw [if_pos c48] at H
                have c48b0 : decide ((y55) < (t112.length : Int)) = true := decide_eq_true c48
                clear c48
                (first | rw [c48b0] | (simp only [i64_w, i32_w]; rw [c48b0]) | skip)
                by_cases c50 : 0 ≤ (y55)
                ·rw [if_pos c50] at H
                 have c50b0 : decide (0 ≤ (y55)) = true := decide_eq_true c50
                 clear c50
                 obtain ⟨ji51, hji51⟩ : ∃ j_ : Int, (wrap64 ((y55) - 1)) = j_ := ⟨_, rfl⟩
                 replace H : (if 0 ≤ (ji51) then (if (ji51) < (t112.length : Int) then (antiphonlaw26_LedgerEpochs.j3 kj40 l0 t112 y55 0 x7_1 (((rd_T47 t112 (y55)).f0) == ((rd_T47 t112 (ji51)).f0)) t102 t103 t104 t105 t106 t107 ((rd_T46 l0 x7_1).f2.f0) ((rd_T46 l0 x7_1).f2.f1) ((rd_T46 l0 x7_1).f2.f2) ((rd_T46 l0 x7_1).f2.f3.f0) ((rd_T46 l0 x7_1).f2.f3.f1) ((rd_T46 l0 x7_1).f2.f3.f2) ((rd_T46 l0 x7_1).f2.f3.f3) ((rd_T46 l0 x7_1).f2.f3.f4) ((rd_T46 l0 x7_1).f2.f3.f5) ((rd_T46 l0 x7_1).f2.f4) ((rd_T46 l0 x7_1).f2.f5)) else (none)) else (none)) = some r := by first | (rw [hji51] at H; exact H) | (simp only [hji51] at H ⊢; exact H)
                 have hji51w : (IntKind.i64.wrap ((y55) - 1)) = ji51 := (i64_w _).trans hji51
                 by_cases c52 : 0 ≤ (ji51)
                 ·rw [if_pos c52] at H
                  have c52b0 : decide (0 ≤ (ji51)) = true := decide_eq_true c52
                  clear c52
                  by_cases c53 : (ji51) < (t112.length : Int)
                  ·rw [if_pos c53] at H
                   have c53b0 : decide ((ji51) < (t112.length : Int)) = true := decide_eq_true c53
                   clear c53
                   have H' := Aside0.mk H
                   clear H
                   try go_wp2
                   have n0_ := Aside0.mk (Kd.N_drew HO_4.out)
                   have n1_ := Aside0.mk (blk_drew BK108.out)
                   have n2_ := Aside0.mk (blk_drew BK118.out)
                   have n3_ := Aside0.mk (below_drew1 HB.out)
                   clear HO_4
                   clear BK108
                   clear BK118
                   clear HB
                   have HO_4 := n0_
                   have BK108 := n1_
                   have BK118 := n2_
                   have HB := n3_
                   clear n0_ n1_ n2_ n3_
                   obtain ⟨Ao55, co55, eo55⟩ := Kd.N_slice HO_4.out
                   (first | subst eo55 | (injection eo55 with f1_ f2_ f3_; have f4_ := f1_.symm; have f5_ := f3_.symm; clear f1_ f2_ f3_; subst f4_; subst f5_))
                   have p120 : 0 ≤ ((y55) : Int) := of_decide_eq_true (by first | (with_reducible assumption) | assumption)
                   have q120 : (y55) < (t112.length : Int) := of_decide_eq_true (by first | (with_reducible assumption) | assumption)
                   obtain ⟨ad120, A120_1, c120_1, e120, hx120_0, hx120_1, hl120_1, hi120_1⟩ := at_T47 (Kd.N_reads' HO_4.out).2.2 (y55) p120 q120
                   cases e120
                   obtain ⟨ce120, hce120, hMe120, hcc120⟩ := Kd.N_get HO_4.out z47 (y55) p120 (by first | exact q120 | exact of_decide_eq_true (by first | (with_reducible assumption) | assumption) | (have e_ := (Kd.N_reads' HO_4.out).1; omega))
                   obtain ⟨ua120_1, uc120_1, rfl, ul120_1, ge120_1⟩ := k47_openF hMe120
                   have hv120_1 := hcc120 1 _ rfl
                   rw [add_field _ _ 1 (by omega)] at hv120_1
                   replace hv120_1 := Option.some.inj (hv120_1.symm.trans hx120_1)
                   injection hv120_1 with hva_ hvn_ hvc_
                   rw [hva_] at ge120_1
                   rw [hvc_] at ul120_1
                   have HL120_1 := Aside0.mk (show Kd.V (Kd.slice 5 (Kd.int .u8)) 42 _ w.heap.size _ _ ((rd_T47 t112 (y55)).f1) from Kd.V_mk ul120_1 ge120_1)
                   clear hva_ hvn_ hvc_ ge120_1 ul120_1
                   clear hcc120 hce120
                   have HR120_1 := Aside0.mk hi120_1
                   have HC120_1 := Aside0.mk hl120_1
                   clear hi120_1 hl120_1
                   replace p120 := eq_true p120
                   replace q120 := eq_true q120
                   have p121 : 0 ≤ ((ji51) : Int) := of_decide_eq_true (by first | (with_reducible assumption) | assumption)
                   have q121 : (ji51) < (t112.length : Int) := of_decide_eq_true (by first | (with_reducible assumption) | assumption)
                   obtain ⟨ad121, A121_1, c121_1, e121, hx121_0, hx121_1, hl121_1, hi121_1⟩ := at_T47 (Kd.N_reads' HO_4.out).2.2 (ji51) p121 q121
                   obtain rfl : ad120 = ad121 := (by injection e121)
                   obtain ⟨ce121, hce121, hMe121, hcc121⟩ := Kd.N_get HO_4.out z47 (ji51) p121 (by first | exact q121 | exact of_decide_eq_true (by first | (with_reducible assumption) | assumption) | (have e_ := (Kd.N_reads' HO_4.out).1; omega))
                   obtain ⟨ua121_1, uc121_1, rfl, ul121_1, ge121_1⟩ := k47_openF hMe121
                   have hv121_1 := hcc121 1 _ rfl
                   rw [add_field _ _ 1 (by omega)] at hv121_1
                   replace hv121_1 := Option.some.inj (hv121_1.symm.trans hx121_1)
                   injection hv121_1 with hva_ hvn_ hvc_
                   rw [hva_] at ge121_1
                   rw [hvc_] at ul121_1
                   have HL121_1 := Aside0.mk (show Kd.V (Kd.slice 5 (Kd.int .u8)) 42 _ w.heap.size _ _ ((rd_T47 t112 (ji51)).f1) from Kd.V_mk ul121_1 ge121_1)
                   clear hva_ hvn_ hvc_ ge121_1 ul121_1
                   clear hcc121 hce121
                   have HR121_1 := Aside0.mk hi121_1
                   have HC121_1 := Aside0.mk hl121_1
                   clear hi121_1 hl121_1
                   replace p121 := eq_true p121
                   replace q121 := eq_true q121
                   refine start_ (n := 18) (S := fun w' => w'.cell? (ad120.add (((y55)).toNat * 2)) = some (.int .i64 ((rd_T47 t112 (y55)).f0)) ∧ w'.cell? ⟨(ad120.add (((y55)).toNat * 2)).block, (ad120.add (((y55)).toNat * 2)).off + 1, none⟩ = some (.slice A120_1 ((rd_T47 t112 (y55)).f1).length c120_1) ∧ w'.cell? (ad120.add (((ji51)).toNat * 2)) = some (.int .i64 ((rd_T47 t112 (ji51)).f0)) ∧ w'.cell? ⟨(ad120.add (((ji51)).toNat * 2)).block, (ad120.add (((ji51)).toNat * 2)).off + 1, none⟩ = some (.slice A121_1 ((rd_T47 t112 (ji51)).f1).length c121_1)) (ds := []) #[false, false, false, false, false, false, false, false, false, false, false, false, false, false, false, false, false, false] (by kernel_rfl) rfl rfl ⟨hx120_0, hx120_1, hx121_0, hx121_1⟩ (fun hHeld => ?_); refine with_tabW antiphonlaw26_LedgerEpochs.tab18 antiphonlaw26_LedgerEpochs.bits18 (fun HT_ HW_ => ?_)
                   generalize wc.drew = w54 at HO_4 BK108 BK118 HB HL120_1 HL121_1 HR120_1 HR121_1 hx120_0 hx120_1 hx121_0 hx121_1 hHeld ⊢
                   refine pure_ (i := 0) (N := some 69) (v := ?_) (a' := ?_) #[true, false, false, false, false, false, false, false, false, false, false, false, false, false, false, false, false, false] rfl rfl (any_of HT_.out (by kernel_rfl)) (fun _ _ _ h => h) (Or.inl ⟨by rfl, ?_⟩) ?_ ?_
                   rotate_left
                   ·intro w'
                    go_simp
                    with_reducible rfl
                   rotate_left
                   ·simp only [Act.put, List.setIfInBounds_toArray, List.set_cons_zero, List.set_cons_succ, i64_w, i32_w]
                    rfl
                   refine pure_ (i := 1) (N := some 70) (v := ?_) (a' := ?_) #[true, true, false, false, false, false, false, false, false, false, false, false, false, false, false, false, false, false] rfl rfl (any_of HT_.out (by kernel_rfl)) (fun _ _ _ h => h) (Or.inl ⟨by rfl, ?_⟩) ?_ ?_
                   rotate_left
                   ·intro w'
                    go_simp
                    with_reducible rfl
                   rotate_left
                   ·simp only [Act.put, List.setIfInBounds_toArray, List.set_cons_zero, List.set_cons_succ, i64_w, i32_w]
                    rfl
                   refine pure_ (i := 2) (N := some 71) (v := ?_) (a' := ?_) #[true, true, true, false, false, false, false, false, false, false, false, false, false, false, false, false, false, false] rfl rfl (any_of HT_.out (by kernel_rfl)) (fun _ _ _ h => h) (Or.inl ⟨by rfl, ?_⟩) ?_ ?_
                   rotate_left
                   ·intro w'
                    go_simp
                    with_reducible rfl
                   rotate_left
                   ·simp only [Act.put, List.setIfInBounds_toArray, List.set_cons_zero, List.set_cons_succ, i64_w, i32_w]
                    rfl
                   refine pure_ (i := 3) (N := some 72) (v := ?_) (a' := ?_) #[true, true, true, true, false, false, false, false, false, false, false, false, false, false, false, false, false, false] rfl rfl (any_of HT_.out (by kernel_rfl)) (fun _ _ _ h => h) (Or.inl ⟨by rfl, ?_⟩) ?_ ?_
                   rotate_left
                   ·intro w'
                    go_simp
                    with_reducible rfl
                   rotate_left
                   ·simp only [Act.put, List.setIfInBounds_toArray, List.set_cons_zero, List.set_cons_succ, i64_w, i32_w]
                    rfl
                   refine pure_ (i := 4) (N := some 73) (v := ?_) (a' := ?_) #[true, true, true, true, true, false, false, false, false, false, false, false, false, false, false, false, false, false] rfl rfl (any_of HT_.out (by kernel_rfl)) (fun _ _ _ h => h) (Or.inl ⟨by rfl, ?_⟩) ?_ ?_
                   rotate_left
                   ·intro w'
                    go_simp
                    with_reducible rfl
                   rotate_left
                   ·simp only [Act.put, List.setIfInBounds_toArray, List.set_cons_zero, List.set_cons_succ, i64_w, i32_w]
                    rfl
                   refine pure_ (i := 5) (N := some 74) (v := ?_) (a' := ?_) #[true, true, true, true, true, true, false, false, false, false, false, false, false, false, false, false, false, false] rfl rfl (any_of HT_.out (by kernel_rfl)) (fun _ _ _ h => h) (Or.inl ⟨by rfl, ?_⟩) ?_ ?_
                   rotate_left
                   ·intro w'
                    go_simp
                    with_reducible rfl
                   rotate_left
                   ·simp only [Act.put, List.setIfInBounds_toArray, List.set_cons_zero, List.set_cons_succ, i64_w, i32_w]
                    rfl
                   refine pure_ (i := 6) (N := some 75) (v := ?_) (a' := ?_) #[true, true, true, true, true, true, true, false, false, false, false, false, false, false, false, false, false, false] rfl rfl (any_of HT_.out (by kernel_rfl)) (fun _ _ _ h => h) (Or.inl ⟨by rfl, ?_⟩) ?_ ?_
                   rotate_left
                   ·intro w'
                    go_simp
                    with_reducible rfl
                   rotate_left
                   ·simp only [Act.put, List.setIfInBounds_toArray, List.set_cons_zero, List.set_cons_succ, i64_w, i32_w]
                    rfl
                   refine pure_ (i := 7) (N := some 76) (v := ?_) (a' := ?_) #[true, true, true, true, true, true, true, true, false, false, false, false, false, false, false, false, false, false] rfl rfl (any_of HT_.out (by kernel_rfl)) (fun _ _ _ h => h) (Or.inl ⟨by rfl, ?_⟩) ?_ ?_
                   rotate_left
                   ·intro w'
                    go_simp
                    with_reducible rfl
                   rotate_left
                   ·simp only [Act.put, List.setIfInBounds_toArray, List.set_cons_zero, List.set_cons_succ, i64_w, i32_w]
                    rfl
                   refine pure_ (i := 8) (N := some 77) (v := ?_) (a' := ?_) #[true, true, true, true, true, true, true, true, true, false, false, false, false, false, false, false, false, false] rfl rfl (any_of HT_.out (by kernel_rfl)) (fun _ _ _ h => h) (Or.inl ⟨by rfl, ?_⟩) ?_ ?_
                   rotate_left
                   ·intro w'
                    go_simp
                    with_reducible rfl
                   rotate_left
                   ·simp only [Act.put, List.setIfInBounds_toArray, List.set_cons_zero, List.set_cons_succ, i64_w, i32_w]
                    rfl
                   refine pure_ (i := 10) (N := some 79) (v := ?_) (a' := ?_) #[true, true, true, true, true, true, true, true, true, false, true, false, false, false, false, false, false, false] rfl rfl (any_of HT_.out (by kernel_rfl)) (fun _ _ _ h => h) (Or.inl ⟨by rfl, ?_⟩) ?_ ?_
                   rotate_left
                   ·intro w'
                    go_simp
                    with_reducible rfl
                   rotate_left
                   ·simp only [Act.put, List.setIfInBounds_toArray, List.set_cons_zero, List.set_cons_succ, i64_w, i32_w]
                    rfl
                   refine pure_ (i := 11) (N := some 80) (v := ?_) (a' := ?_) #[true, true, true, true, true, true, true, true, true, false, true, true, false, false, false, false, false, false] rfl rfl (any_of HT_.out (by kernel_rfl)) (fun _ _ _ h => h) (Or.inl ⟨by rfl, ?_⟩) ?_ ?_
                   rotate_left
                   ·intro w'
                    go_simp
                    with_reducible rfl
                   rotate_left
                   ·simp only [Act.put, List.setIfInBounds_toArray, List.set_cons_zero, List.set_cons_succ, i64_w, i32_w]
                    rfl
                   refine pure_ (i := 12) (N := some 81) (v := ?_) (a' := ?_) #[true, true, true, true, true, true, true, true, true, false, true, true, true, false, false, false, false, false] rfl rfl (any_of HT_.out (by kernel_rfl)) (fun _ _ _ h => h) (Or.inl ⟨by rfl, ?_⟩) ?_ ?_
                   rotate_left
                   ·intro w'
                    go_simp
                    with_reducible rfl
                   rotate_left
                   ·simp only [Act.put, List.setIfInBounds_toArray, List.set_cons_zero, List.set_cons_succ, i64_w, i32_w]
                    rfl
                   refine pure_ (i := 13) (N := some 82) (v := ?_) (a' := ?_) #[true, true, true, true, true, true, true, true, true, false, true, true, true, true, false, false, false, false] rfl rfl (any_of HT_.out (by kernel_rfl)) (fun _ _ _ h => h) (Or.inl ⟨by rfl, ?_⟩) ?_ ?_
                   rotate_left
                   ·intro w'
                    go_simp
                    with_reducible rfl
                   rotate_left
                   ·simp only [Act.put, List.setIfInBounds_toArray, List.set_cons_zero, List.set_cons_succ, i64_w, i32_w]
                    rfl
                   refine pure_ (i := 14) (N := some 83) (v := ?_) (a' := ?_) #[true, true, true, true, true, true, true, true, true, false, true, true, true, true, true, false, false, false] rfl rfl (any_of HT_.out (by kernel_rfl)) (fun _ _ _ h => h) (Or.inl ⟨by rfl, ?_⟩) ?_ ?_
                   rotate_left
                   ·intro w'
                    go_simp
                    with_reducible rfl
                   rotate_left
                   ·simp only [Act.put, List.setIfInBounds_toArray, List.set_cons_zero, List.set_cons_succ, i64_w, i32_w]
                    rfl
                   refine take_ (i := 9) (N := some 78) (v := ?_) (a' := ?_) #[true, true, true, true, true, true, true, true, true, true, true, true, true, true, true, false, false, false] rfl rfl (take_ofW HT_.out HW_.out (by kernel_rfl)) (fun _ _ _ h => h) (Or.inl ⟨by rfl, ?_⟩) hHeld ?_ ?_
                   rotate_left
                   ·rintro w' ⟨s0, s1, s2, s3⟩
                    go_simp
                    with_reducible rfl
                   rotate_left
                   ·simp only [Act.put, List.setIfInBounds_toArray, List.set_cons_zero, List.set_cons_succ, i64_w, i32_w]
                    rfl
                   refine take_ (i := 15) (N := some 84) (v := ?_) (a' := ?_) #[true, true, true, true, true, true, true, true, true, true, true, true, true, true, true, true, false, false] rfl rfl (take_ofW HT_.out HW_.out (by kernel_rfl)) (fun _ _ _ h => h) (Or.inl ⟨by rfl, ?_⟩) hHeld ?_ ?_
                   rotate_left
                   ·rintro w' ⟨s0, s1, s2, s3⟩
                    go_simp
                    with_reducible rfl
                   rotate_left
                   ·simp only [Act.put, List.setIfInBounds_toArray, List.set_cons_zero, List.set_cons_succ, i64_w, i32_w]
                    rfl
                   refine pure_ (i := 16) (N := some 85) (v := ?_) (a' := ?_) #[true, true, true, true, true, true, true, true, true, true, true, true, true, true, true, true, true, false] rfl rfl (any_of HT_.out (by kernel_rfl)) (fun _ _ _ h => h) (Or.inl ⟨by rfl, ?_⟩) ?_ ?_
                   rotate_left
                   ·intro w'
                    go_simp
                    with_reducible rfl
                   rotate_left
                   ·simp only [Act.put, List.setIfInBounds_toArray, List.set_cons_zero, List.set_cons_succ, i64_w, i32_w]
                    rfl
                   refine pure_ (i := 17) (N := some 86) (v := ?_) (a' := ?_) #[true, true, true, true, true, true, true, true, true, true, true, true, true, true, true, true, true, true] rfl rfl (any_of HT_.out (by kernel_rfl)) (fun _ _ _ h => h) (Or.inl ⟨by rfl, ?_⟩) ?_ ?_
                   rotate_left
                   ·intro w'
                    go_simp
                    with_reducible rfl
                   rotate_left
                   ·simp only [Act.put, List.setIfInBounds_toArray, List.set_cons_zero, List.set_cons_succ, i64_w, i32_w]
                    rfl
                   refine done_ (done_of HT_.out (by kernel_rfl)) ?_
                   try go_wp2
                   go_meet
                   case rel => exact ⟨_, ((((rd_T47 t112 (y55)).f0) == ((rd_T47 t112 (ji51)).f0))), (by first | rfl | (simp; done) | (simp only [← hji51] <;> (first | rfl | simp)) | (simp [*]; done)), H', ⟨by have := HK1.out; have := HJ23.out; have := HJ40.out; first | omega | exact Nat.le_refl _⟩, ⟨by (with_reducible repeat (first | apply Kd.N_alloc | apply Kd.N_drewN | apply Kd.N_drew)); exact HO_4.out⟩, ⟨by (with_reducible repeat (first | refine blk_drewN ?_ _ | refine blk_drew ?_ | refine blk_alloc ?_ _)); exact BK108.out⟩, ⟨by (with_reducible repeat (first | refine blk_drewN ?_ _ | refine blk_drew ?_ | refine blk_alloc ?_ _)); exact BK118.out⟩, ⟨by repeat (first | (with_reducible first | exact HB.out | apply below_alloc | apply pw_below_drewN | apply below_drew1 | refine below_set ?_ GE108.out | refine below_set ?_ GE118.out) | exact HB.out)⟩⟩
                  ·rw [if_neg c53] at H
                   exact absurd H (by simp)
                 ·rw [if_neg c52] at H
                  exact absurd H (by simp)
                ·rw [if_neg c50] at H
                 exact absurd H (by simp)
               ·rw [if_neg c48] at H
                have c48b0 : decide ((y55) < (t112.length : Int)) = false := decide_eq_false c48
                clear c48
                (first | rw [c48b0] | (simp only [i64_w, i32_w]; rw [c48b0]) | skip)
                have H' := Aside0.mk H
                clear H
                try go_wp2
                have n0_ := Aside0.mk (Kd.N_drew HO_4.out)
                have n1_ := Aside0.mk (blk_drew BK108.out)
                have n2_ := Aside0.mk (blk_drew BK118.out)
                have n3_ := Aside0.mk (below_drew1 HB.out)
                clear HO_4
                clear BK108
                clear BK118
                clear HB
                have HO_4 := n0_
                have BK108 := n1_
                have BK118 := n2_
                have HB := n3_
                clear n0_ n1_ n2_ n3_
                obtain ⟨Ao57, co57, eo57⟩ := Kd.N_slice HO_4.out
                (first | subst eo57 | (injection eo57 with f1_ f2_ f3_; have f4_ := f1_.symm; have f5_ := f3_.symm; clear f1_ f2_ f3_; subst f4_; subst f5_))
                refine start_ (n := 18) (S := fun w' => True) (ds := []) #[false, false, false, false, false, false, false, false, false, false, false, false, false, false, false, false, false, false] (by kernel_rfl) rfl rfl trivial (fun hHeld => ?_); refine with_tabW antiphonlaw26_LedgerEpochs.tab18 antiphonlaw26_LedgerEpochs.bits18 (fun HT_ HW_ => ?_)
                generalize wc.drew = w56 at HO_4 BK108 BK118 HB hHeld ⊢
                refine pure_ (i := 0) (N := some 69) (v := ?_) (a' := ?_) #[true, false, false, false, false, false, false, false, false, false, false, false, false, false, false, false, false, false] rfl rfl (any_of HT_.out (by kernel_rfl)) (fun _ _ _ h => h) (Or.inl ⟨by rfl, ?_⟩) ?_ ?_
                rotate_left
                ·intro w'
                 go_simp
                 with_reducible rfl
                rotate_left
                ·simp only [Act.put, List.setIfInBounds_toArray, List.set_cons_zero, List.set_cons_succ, i64_w, i32_w]
                 rfl
                refine pure_ (i := 1) (N := some 70) (v := ?_) (a' := ?_) #[true, true, false, false, false, false, false, false, false, false, false, false, false, false, false, false, false, false] rfl rfl (any_of HT_.out (by kernel_rfl)) (fun _ _ _ h => h) (Or.inl ⟨by rfl, ?_⟩) ?_ ?_
                rotate_left
                ·intro w'
                 go_simp
                 with_reducible rfl
                rotate_left
                ·simp only [Act.put, List.setIfInBounds_toArray, List.set_cons_zero, List.set_cons_succ, i64_w, i32_w]
                 rfl
                refine pure_ (i := 2) (N := some 71) (v := ?_) (a' := ?_) #[true, true, true, false, false, false, false, false, false, false, false, false, false, false, false, false, false, false] rfl rfl (any_of HT_.out (by kernel_rfl)) (fun _ _ _ h => h) (Or.inl ⟨by rfl, ?_⟩) ?_ ?_
                rotate_left
                ·intro w'
                 go_simp
                 with_reducible rfl
                rotate_left
                ·simp only [Act.put, List.setIfInBounds_toArray, List.set_cons_zero, List.set_cons_succ, i64_w, i32_w]
                 rfl
                refine pure_ (i := 3) (N := some 72) (v := ?_) (a' := ?_) #[true, true, true, true, false, false, false, false, false, false, false, false, false, false, false, false, false, false] rfl rfl (any_of HT_.out (by kernel_rfl)) (fun _ _ _ h => h) (Or.inl ⟨by rfl, ?_⟩) ?_ ?_
                rotate_left
                ·intro w'
                 go_simp
                 with_reducible rfl
                rotate_left
                ·simp only [Act.put, List.setIfInBounds_toArray, List.set_cons_zero, List.set_cons_succ, i64_w, i32_w]
                 rfl
                refine pure_ (i := 4) (N := some 73) (v := ?_) (a' := ?_) #[true, true, true, true, true, false, false, false, false, false, false, false, false, false, false, false, false, false] rfl rfl (any_of HT_.out (by kernel_rfl)) (fun _ _ _ h => h) (Or.inl ⟨by rfl, ?_⟩) ?_ ?_
                rotate_left
                ·intro w'
                 go_simp
                 with_reducible rfl
                rotate_left
                ·simp only [Act.put, List.setIfInBounds_toArray, List.set_cons_zero, List.set_cons_succ, i64_w, i32_w]
                 rfl
                refine pure_ (i := 5) (N := some 74) (v := undef) (a' := ?_) #[true, true, true, true, true, true, false, false, false, false, false, false, false, false, false, false, false, false] rfl rfl (any_of HT_.out (by kernel_rfl)) (fun _ _ _ h => h) (Or.inr ⟨by rfl, rfl⟩) ?_ ?_
                rotate_left
                ·simp only [Act.put, List.setIfInBounds_toArray, List.set_cons_zero, List.set_cons_succ, i64_w, i32_w]
                 rfl
                refine pure_ (i := 6) (N := some 75) (v := undef) (a' := ?_) #[true, true, true, true, true, true, true, false, false, false, false, false, false, false, false, false, false, false] rfl rfl (any_of HT_.out (by kernel_rfl)) (fun _ _ _ h => h) (Or.inr ⟨by rfl, rfl⟩) ?_ ?_
                rotate_left
                ·simp only [Act.put, List.setIfInBounds_toArray, List.set_cons_zero, List.set_cons_succ, i64_w, i32_w]
                 rfl
                refine pure_ (i := 7) (N := some 76) (v := undef) (a' := ?_) #[true, true, true, true, true, true, true, true, false, false, false, false, false, false, false, false, false, false] rfl rfl (any_of HT_.out (by kernel_rfl)) (fun _ _ _ h => h) (Or.inr ⟨by rfl, rfl⟩) ?_ ?_
                rotate_left
                ·simp only [Act.put, List.setIfInBounds_toArray, List.set_cons_zero, List.set_cons_succ, i64_w, i32_w]
                 rfl
                refine pure_ (i := 8) (N := some 77) (v := undef) (a' := ?_) #[true, true, true, true, true, true, true, true, true, false, false, false, false, false, false, false, false, false] rfl rfl (any_of HT_.out (by kernel_rfl)) (fun _ _ _ h => h) (Or.inr ⟨by rfl, rfl⟩) ?_ ?_
                rotate_left
                ·simp only [Act.put, List.setIfInBounds_toArray, List.set_cons_zero, List.set_cons_succ, i64_w, i32_w]
                 rfl
                refine pure_ (i := 9) (N := some 78) (v := undef) (a' := ?_) #[true, true, true, true, true, true, true, true, true, true, false, false, false, false, false, false, false, false] rfl rfl (any_of HT_.out (by kernel_rfl)) (fun _ _ _ h => h) (Or.inr ⟨by rfl, rfl⟩) ?_ ?_
                rotate_left
                ·simp only [Act.put, List.setIfInBounds_toArray, List.set_cons_zero, List.set_cons_succ, i64_w, i32_w]
                 rfl
                refine pure_ (i := 10) (N := some 79) (v := undef) (a' := ?_) #[true, true, true, true, true, true, true, true, true, true, true, false, false, false, false, false, false, false] rfl rfl (any_of HT_.out (by kernel_rfl)) (fun _ _ _ h => h) (Or.inr ⟨by rfl, rfl⟩) ?_ ?_
                rotate_left
                ·simp only [Act.put, List.setIfInBounds_toArray, List.set_cons_zero, List.set_cons_succ, i64_w, i32_w]
                 rfl
                refine pure_ (i := 11) (N := some 80) (v := undef) (a' := ?_) #[true, true, true, true, true, true, true, true, true, true, true, true, false, false, false, false, false, false] rfl rfl (any_of HT_.out (by kernel_rfl)) (fun _ _ _ h => h) (Or.inr ⟨by rfl, rfl⟩) ?_ ?_
                rotate_left
                ·simp only [Act.put, List.setIfInBounds_toArray, List.set_cons_zero, List.set_cons_succ, i64_w, i32_w]
                 rfl
                refine pure_ (i := 12) (N := some 81) (v := undef) (a' := ?_) #[true, true, true, true, true, true, true, true, true, true, true, true, true, false, false, false, false, false] rfl rfl (any_of HT_.out (by kernel_rfl)) (fun _ _ _ h => h) (Or.inr ⟨by rfl, rfl⟩) ?_ ?_
                rotate_left
                ·simp only [Act.put, List.setIfInBounds_toArray, List.set_cons_zero, List.set_cons_succ, i64_w, i32_w]
                 rfl
                refine pure_ (i := 13) (N := some 82) (v := undef) (a' := ?_) #[true, true, true, true, true, true, true, true, true, true, true, true, true, true, false, false, false, false] rfl rfl (any_of HT_.out (by kernel_rfl)) (fun _ _ _ h => h) (Or.inr ⟨by rfl, rfl⟩) ?_ ?_
                rotate_left
                ·simp only [Act.put, List.setIfInBounds_toArray, List.set_cons_zero, List.set_cons_succ, i64_w, i32_w]
                 rfl
                refine pure_ (i := 14) (N := some 83) (v := undef) (a' := ?_) #[true, true, true, true, true, true, true, true, true, true, true, true, true, true, true, false, false, false] rfl rfl (any_of HT_.out (by kernel_rfl)) (fun _ _ _ h => h) (Or.inr ⟨by rfl, rfl⟩) ?_ ?_
                rotate_left
                ·simp only [Act.put, List.setIfInBounds_toArray, List.set_cons_zero, List.set_cons_succ, i64_w, i32_w]
                 rfl
                refine pure_ (i := 15) (N := some 84) (v := undef) (a' := ?_) #[true, true, true, true, true, true, true, true, true, true, true, true, true, true, true, true, false, false] rfl rfl (any_of HT_.out (by kernel_rfl)) (fun _ _ _ h => h) (Or.inr ⟨by rfl, rfl⟩) ?_ ?_
                rotate_left
                ·simp only [Act.put, List.setIfInBounds_toArray, List.set_cons_zero, List.set_cons_succ, i64_w, i32_w]
                 rfl
                refine pure_ (i := 16) (N := some 85) (v := undef) (a' := ?_) #[true, true, true, true, true, true, true, true, true, true, true, true, true, true, true, true, true, false] rfl rfl (any_of HT_.out (by kernel_rfl)) (fun _ _ _ h => h) (Or.inr ⟨by rfl, rfl⟩) ?_ ?_
                rotate_left
                ·simp only [Act.put, List.setIfInBounds_toArray, List.set_cons_zero, List.set_cons_succ, i64_w, i32_w]
                 rfl
                refine pure_ (i := 17) (N := some 86) (v := ?_) (a' := ?_) #[true, true, true, true, true, true, true, true, true, true, true, true, true, true, true, true, true, true] rfl rfl (any_of HT_.out (by kernel_rfl)) (fun _ _ _ h => h) (Or.inl ⟨by rfl, ?_⟩) ?_ ?_
                rotate_left
                ·intro w'
                 go_simp
                 with_reducible rfl
                rotate_left
                ·simp only [Act.put, List.setIfInBounds_toArray, List.set_cons_zero, List.set_cons_succ, i64_w, i32_w]
                 rfl
                refine done_ (done_of HT_.out (by kernel_rfl)) ?_
                try go_wp2
                go_meet
                case rel => exact ⟨_, (false), (by first | rfl | (simp; done) | (simp [*]; done)), H', ⟨by have := HK1.out; have := HJ23.out; have := HJ40.out; first | omega | exact Nat.le_refl _⟩, ⟨by (with_reducible repeat (first | apply Kd.N_alloc | apply Kd.N_drewN | apply Kd.N_drew)); exact HO_4.out⟩, ⟨by (with_reducible repeat (first | refine blk_drewN ?_ _ | refine blk_drew ?_ | refine blk_alloc ?_ _)); exact BK108.out⟩, ⟨by (with_reducible repeat (first | refine blk_drewN ?_ _ | refine blk_drew ?_ | refine blk_alloc ?_ _)); exact BK118.out⟩, ⟨by repeat (first | (with_reducible first | exact HB.out | apply below_alloc | apply pw_below_drewN | apply below_drew1 | refine below_set ?_ GE108.out | refine below_set ?_ GE118.out) | exact HB.out)⟩⟩
              case rest =>
               clear HC47
               try clear c1
               try clear p1
               try clear q1
               try clear hx1
               try clear c2
               try clear p2
               try clear c3
               try clear c4
               try clear c5
               try clear p6
               try clear c8
               try clear c11
               try clear p11
               try clear q11
               try clear hx11
               try clear c12
               try clear p12
               try clear q12
               try clear hx12
               try clear c15
               try clear c16
               try clear c17
               try clear c18
               try clear c18b0
               try clear c19
               try clear c19b0
               try clear c20
               try clear c20b0
               try clear c20b1
               try clear c22
               try clear c26
               try clear c28
               try clear c28b0
               try clear c28b1
               try clear c29
               try clear c29b0
               try clear c29b1
               try clear c30
               try clear c30b0
               try clear c30b1
               try clear c31
               try clear c34
               try clear c36
               try clear c38
               try clear c40
               try clear c42
               try clear c42b0
               try clear c43
               try clear c43b0
               try clear c46
               try clear c48
               try clear c48b0
               try clear c50
               try clear c50b0
               try clear c52
               try clear c52b0
               try clear c53
               try clear c53b0
               try clear hcz12_0
               try clear hcz12_1
               try clear hcz12_2
               try clear hcz12_3
               try clear hcz12_4
               try clear hcz12_5
               try clear hcz23_0
               try clear hcz23_1
               try clear hcz23_10
               try clear hcz23_2
               try clear hcz23_3
               try clear hcz23_4
               try clear hcz23_5
               try clear hcz23_6
               try clear hcz23_7
               try clear hcz23_8
               try clear hcz23_9
               try clear hcz27_0
               try clear hcz27_1
               try clear hcz27_10
               try clear hcz27_2
               try clear hcz27_3
               try clear hcz27_4
               try clear hcz27_5
               try clear hcz27_6
               try clear hcz27_7
               try clear hcz27_8
               try clear hcz27_9
               try clear hcz32_0
               try clear hcz32_1
               try clear hcz32_10
               try clear hcz32_2
               try clear hcz32_3
               try clear hcz32_4
               try clear hcz32_5
               try clear hcz32_6
               try clear hcz32_7
               try clear hcz32_8
               try clear hcz32_9
               try clear hcz33_0
               try clear hcz33_1
               try clear hcz33_2
               try clear hcz33_3
               try clear hcz33_4
               try clear hcz33_5
               try clear hcz35_0
               try clear hcz35_1
               try clear hcz35_10
               try clear hcz35_2
               try clear hcz35_3
               try clear hcz35_4
               try clear hcz35_5
               try clear hcz35_6
               try clear hcz35_7
               try clear hcz35_8
               try clear hcz35_9
               try clear hcz37_0
               try clear hcz37_1
               try clear hcz37_10
               try clear hcz37_2
               try clear hcz37_3
               try clear hcz37_4
               try clear hcz37_5
               try clear hcz37_6
               try clear hcz37_7
               try clear hcz37_8
               try clear hcz37_9
               try clear hcz39_0
               try clear hcz39_1
               try clear hcz39_10
               try clear hcz39_2
               try clear hcz39_3
               try clear hcz39_4
               try clear hcz39_5
               try clear hcz39_6
               try clear hcz39_7
               try clear hcz39_8
               try clear hcz39_9
               try clear hfz12_0
               try clear hfz12_1
               try clear hfz12_2
               try clear hfz12_3
               try clear hfz12_4
               try clear hfz12_5
               try clear hfz23_0
               try clear hfz23_1
               try clear hfz23_10
               try clear hfz23_2
               try clear hfz23_3
               try clear hfz23_4
               try clear hfz23_5
               try clear hfz23_6
               try clear hfz23_7
               try clear hfz23_8
               try clear hfz23_9
               try clear hfz27_0
               try clear hfz27_1
               try clear hfz27_10
               try clear hfz27_2
               try clear hfz27_3
               try clear hfz27_4
               try clear hfz27_5
               try clear hfz27_6
               try clear hfz27_7
               try clear hfz27_8
               try clear hfz27_9
               try clear hfz32_0
               try clear hfz32_1
               try clear hfz32_10
               try clear hfz32_2
               try clear hfz32_3
               try clear hfz32_4
               try clear hfz32_5
               try clear hfz32_6
               try clear hfz32_7
               try clear hfz32_8
               try clear hfz32_9
               try clear hfz33_0
               try clear hfz33_1
               try clear hfz33_2
               try clear hfz33_3
               try clear hfz33_4
               try clear hfz33_5
               try clear hfz35_0
               try clear hfz35_1
               try clear hfz35_10
               try clear hfz35_2
               try clear hfz35_3
               try clear hfz35_4
               try clear hfz35_5
               try clear hfz35_6
               try clear hfz35_7
               try clear hfz35_8
               try clear hfz35_9
               try clear hfz37_0
               try clear hfz37_1
               try clear hfz37_10
               try clear hfz37_2
               try clear hfz37_3
               try clear hfz37_4
               try clear hfz37_5
               try clear hfz37_6
               try clear hfz37_7
               try clear hfz37_8
               try clear hfz37_9
               try clear hfz39_0
               try clear hfz39_1
               try clear hfz39_10
               try clear hfz39_2
               try clear hfz39_3
               try clear hfz39_4
               try clear hfz39_5
               try clear hfz39_6
               try clear hfz39_7
               try clear hfz39_8
               try clear hfz39_9
               try clear hx117_0
               try clear hx117_1
               try clear hx117_10
               try clear hx117_11
               try clear hx117_12
               try clear hx117_2
               try clear hx117_3
               try clear hx117_4
               try clear hx117_5
               try clear hx117_6
               try clear hx117_7
               try clear hx117_8
               try clear hx117_9
               try clear hx119_0
               try clear hx119_1
               try clear hx120_0
               try clear hx120_1
               try clear hx121_0
               try clear hx121_1
               try clear p1
               try clear p11
               try clear p117
               try clear p119
               try clear p120
               try clear p121
               try clear p2
               try clear p6
               try clear q1
               try clear q11
               try clear q117
               try clear q119
               try clear q120
               try clear q121
               obtain ⟨kq, x86_46, rfl, HA, HJ46, HO_4, BK108, BK118, HB⟩ := hcut
               cases kq with
               | zero => exact absurd HA.out (by simp [antiphonlaw26_LedgerEpochs.j3])
               | succ kj46 =>
                have H := HA.out
                clear HA
                simp only [antiphonlaw26_LedgerEpochs.j3] at H
                by_cases c58 : x86_46 = true
                ·subst c58
                 have H1 : (none) = some r := by rw [if_pos rfl] at H; exact H
                 clear H
                 have H := H1
                 clear H1
                 exact absurd H (by simp)
                ·replace c58 := Bool.eq_false_iff.mpr c58
                 subst c58
                 have H1 : (if (y55) ≥ (t112.length : Int) then (none) else (if 0 ≤ (y55) then (if (y55) < (t112.length : Int) then (if 0 ≤ x7_1 then (if x7_1 < (l0.length : Int) then (if ((rd_T47 t112 (y55)).f0) = ((rd_T46 l0 x7_1).f1) then (if 0 ≥ (((rd_T47 t112 (y55)).f1).length : Int) then (none) else (if 0 ≤ 0 then (if 0 < (((rd_T47 t112 (y55)).f1).length : Int) then ((antiphonref1_Same.f kj46 (rd_L1 ((rd_T47 t112 (y55)).f1) 0) ((rd_T46 l0 x7_1).f2.f4)).bind fun t127 => (if t127 = true then (antiphonlaw26_LedgerEpochs.l0 kj46 l0 t112 (y55) (wrap64 (0 + 1)) (wrap64 (x7_1 + 1)) t102 t103 t104 t105 t106 t107) else (none))) else (none)) else (none))) else (none)) else (none)) else (none)) else (none)) else (none))) = some r := by rw [if_neg (show ¬ (false = true) by decide)] at H; exact H
                 clear H
                 have H := H1
                 clear H1
                 by_cases c59 : (y55) ≥ (t112.length : Int)
                 ·rw [if_pos c59] at H
                  have c59b0 : decide ((t112.length : Int) ≤ (y55)) = true := decide_eq_true c59
                  clear c59
                  exact absurd H (by simp)
                 ·rw [if_neg c59] at H
                  have c59b0 : decide ((t112.length : Int) ≤ (y55)) = false := decide_eq_false c59
                  clear c59
                  by_cases c61 : 0 ≤ (y55)
                  ·rw [if_pos c61] at H
                   have c61b0 : decide (0 ≤ (y55)) = true := decide_eq_true c61
                   clear c61
                   by_cases c62 : (y55) < (t112.length : Int)
                   ·rw [if_pos c62] at H
                    have c62b0 : decide ((y55) < (t112.length : Int)) = true := decide_eq_true c62
                    clear c62
                    by_cases c63 : 0 ≤ x7_1
                    ·rw [if_pos c63] at H
                     have c63b0 : decide (0 ≤ x7_1) = true := decide_eq_true c63
                     clear c63
                     by_cases c64 : x7_1 < (l0.length : Int)
                     ·rw [if_pos c64] at H
                      have c64b0 : decide (x7_1 < (l0.length : Int)) = true := decide_eq_true c64
                      clear c64
                      by_cases c65 : ((rd_T47 t112 (y55)).f0) = ((rd_T46 l0 x7_1).f1)
                      ·rw [if_pos c65] at H
                       have c65b0 : (((rd_T47 t112 (y55)).f0) == ((rd_T46 l0 x7_1).f1)) = true := beq_iff_eq.mpr c65
                       have c65b1 : (((rd_T47 t112 (y55)).f0) != ((rd_T46 l0 x7_1).f1)) = false := bne_eq_false_iff_eq.mpr c65
                       clear c65
                       by_cases c66 : 0 ≥ (((rd_T47 t112 (y55)).f1).length : Int)
                       ·rw [if_pos c66] at H
                        have c66b0 : decide ((((rd_T47 t112 (y55)).f1).length : Int) ≤ 0) = true := decide_eq_true c66
                        have c66b1 : decide (((rd_T47 t112 (y55)).f1).length ≤ 0) = true := decide_eq_true (by omega)
                        have c66b2 : decide (((rd_T47 t112 (y55)).f1) = []) = true := decide_eq_true (List.length_eq_zero_iff.1 (by omega))
                        clear c66
                        exact absurd H (by simp)
                       ·rw [if_neg c66] at H
                        have c66b0 : decide ((((rd_T47 t112 (y55)).f1).length : Int) ≤ 0) = false := decide_eq_false c66
                        have c66b1 : decide (((rd_T47 t112 (y55)).f1).length ≤ 0) = false := decide_eq_false (by omega)
                        have c66b2 : decide (((rd_T47 t112 (y55)).f1) = []) = false := decide_eq_false (fun h_ => by rw [h_] at c66; simp at c66)
                        clear c66
                        by_cases c67 : 0 ≤ 0
                        ·rw [if_pos c67] at H
                         have c67b0 : decide (0 ≤ 0) = true := decide_eq_true c67
                         clear c67
                         by_cases c68 : 0 < (((rd_T47 t112 (y55)).f1).length : Int)
                         ·rw [if_pos c68] at H
                          have c68b0 : decide (0 < (((rd_T47 t112 (y55)).f1).length : Int)) = true := decide_eq_true c68
                          have c68b1 : decide (0 < ((rd_T47 t112 (y55)).f1).length) = true := decide_eq_true (by omega)
                          clear c68
                          replace H := Option.bind_eq_some_iff.mp H
                          obtain ⟨t127, A690, H⟩ := H
                          replace H : (if t127 = true then (antiphonlaw26_LedgerEpochs.l0 kj46 l0 t112 (y55) (wrap64 (0 + 1)) (wrap64 (x7_1 + 1)) t102 t103 t104 t105 t106 t107) else (none)) = some r := H
                          have A69 := Aside0.mk A690
                          clear A690
                          by_cases c70 : t127 = true
                          ·subst c70
                           have H1 : (antiphonlaw26_LedgerEpochs.l0 kj46 l0 t112 (y55) (wrap64 (0 + 1)) (wrap64 (x7_1 + 1)) t102 t103 t104 t105 t106 t107) = some r := by rw [if_pos rfl] at H; exact H
                           clear H
                           have H := H1
                           clear H1
                           have H' := Aside0.mk H
                           clear H
                           try go_wp2
                           have n0_ := Aside0.mk (Kd.N_drew HO_4.out)
                           have n1_ := Aside0.mk (blk_drew BK108.out)
                           have n2_ := Aside0.mk (blk_drew BK118.out)
                           have n3_ := Aside0.mk (below_drew1 HB.out)
                           clear HO_4
                           clear BK108
                           clear BK118
                           clear HB
                           have HO_4 := n0_
                           have BK108 := n1_
                           have BK118 := n2_
                           have HB := n3_
                           clear n0_ n1_ n2_ n3_
                           obtain ⟨Ao72, co72, eo72⟩ := Kd.N_slice HO_4.out
                           (first | subst eo72 | (injection eo72 with f1_ f2_ f3_; have f4_ := f1_.symm; have f5_ := f3_.symm; clear f1_ f2_ f3_; subst f4_; subst f5_))
                           have p122 : 0 ≤ ((y55) : Int) := of_decide_eq_true (by first | (with_reducible assumption) | assumption)
                           have q122 : (y55) < (t112.length : Int) := of_decide_eq_true (by first | (with_reducible assumption) | assumption)
                           obtain ⟨ad122, A122_1, c122_1, e122, hx122_0, hx122_1, hl122_1, hi122_1⟩ := at_T47 (Kd.N_reads' HO_4.out).2.2 (y55) p122 q122
                           cases e122
                           obtain ⟨ce122, hce122, hMe122, hcc122⟩ := Kd.N_get HO_4.out z47 (y55) p122 (by first | exact q122 | exact of_decide_eq_true (by first | (with_reducible assumption) | assumption) | (have e_ := (Kd.N_reads' HO_4.out).1; omega))
                           obtain ⟨ua122_1, uc122_1, rfl, ul122_1, ge122_1⟩ := k47_openF hMe122
                           have hv122_1 := hcc122 1 _ rfl
                           rw [add_field _ _ 1 (by omega)] at hv122_1
                           replace hv122_1 := Option.some.inj (hv122_1.symm.trans hx122_1)
                           injection hv122_1 with hva_ hvn_ hvc_
                           rw [hva_] at ge122_1
                           rw [hvc_] at ul122_1
                           have HL122_1 := Aside0.mk (show Kd.V (Kd.slice 5 (Kd.int .u8)) 42 _ w.heap.size _ _ ((rd_T47 t112 (y55)).f1) from Kd.V_mk ul122_1 ge122_1)
                           clear hva_ hvn_ hvc_ ge122_1 ul122_1
                           clear hcc122 hce122
                           have HR122_1 := Aside0.mk hi122_1
                           have HC122_1 := Aside0.mk hl122_1
                           clear hi122_1 hl122_1
                           replace p122 := eq_true p122
                           replace q122 := eq_true q122
                           have p123 : 0 ≤ (x7_1 : Int) := of_decide_eq_true (by first | (with_reducible assumption) | assumption)
                           have q123 : x7_1 < (l0.length : Int) := of_decide_eq_true (by first | (with_reducible assumption) | assumption)
                           obtain ⟨ad123, A123_11, c123_11, e123, hx123_0, hx123_1, hx123_2, hx123_3, hx123_4, hx123_5, hx123_6, hx123_7, hx123_8, hx123_9, hx123_10, hx123_11, hx123_12, hl123_11, hi123_11⟩ := at_T46 HR0.out x7_1 p123 q123
                           have hw123_12 := hx123_12
                           have hw123_11 := hx123_11
                           have hw123_10 := hx123_10
                           have hw123_9 := hx123_9
                           have hw123_8 := hx123_8
                           have hw123_7 := hx123_7
                           have hw123_6 := hx123_6
                           have hw123_5 := hx123_5
                           have hw123_4 := hx123_4
                           have hw123_3 := hx123_3
                           have hw123_2 := hx123_2
                           have hw123_1 := hx123_1
                           have hw123_0 := hx123_0
                           obtain rfl : ad117 = ad123 := (by injection e123)
                           replace hx123_0 := (HB.out.cell (World.block_lt_of_cell? w _ hx123_0)).trans hx123_0
                           replace hx123_1 := (HB.out.cell (World.block_lt_of_cell? w _ hx123_1)).trans hx123_1
                           replace hx123_2 := (HB.out.cell (World.block_lt_of_cell? w _ hx123_2)).trans hx123_2
                           replace hx123_3 := (HB.out.cell (World.block_lt_of_cell? w _ hx123_3)).trans hx123_3
                           replace hx123_4 := (HB.out.cell (World.block_lt_of_cell? w _ hx123_4)).trans hx123_4
                           replace hx123_5 := (HB.out.cell (World.block_lt_of_cell? w _ hx123_5)).trans hx123_5
                           replace hx123_6 := (HB.out.cell (World.block_lt_of_cell? w _ hx123_6)).trans hx123_6
                           replace hx123_7 := (HB.out.cell (World.block_lt_of_cell? w _ hx123_7)).trans hx123_7
                           replace hx123_8 := (HB.out.cell (World.block_lt_of_cell? w _ hx123_8)).trans hx123_8
                           replace hx123_9 := (HB.out.cell (World.block_lt_of_cell? w _ hx123_9)).trans hx123_9
                           replace hx123_10 := (HB.out.cell (World.block_lt_of_cell? w _ hx123_10)).trans hx123_10
                           replace hx123_11 := (HB.out.cell (World.block_lt_of_cell? w _ hx123_11)).trans hx123_11
                           replace hx123_12 := (HB.out.cell (World.block_lt_of_cell? w _ hx123_12)).trans hx123_12
                           have HR123_11 := Aside0.mk hi123_11
                           have HC123_11 := Aside0.mk hl123_11
                           clear hi123_11 hl123_11
                           replace p123 := eq_true p123
                           replace q123 := eq_true q123
                           have p124 : 0 ≤ ((y55) : Int) := of_decide_eq_true (by first | (with_reducible assumption) | assumption)
                           have q124 : (y55) < (t112.length : Int) := of_decide_eq_true (by first | (with_reducible assumption) | assumption)
                           obtain ⟨ad124, A124_1, c124_1, e124, hx124_0, hx124_1, hl124_1, hi124_1⟩ := at_T47 (Kd.N_reads' HO_4.out).2.2 (y55) p124 q124
                           obtain rfl : ad122 = ad124 := (by injection e124)
                           obtain ⟨ce124, hce124, hMe124, hcc124⟩ := Kd.N_get HO_4.out z47 (y55) p124 (by first | exact q124 | exact of_decide_eq_true (by first | (with_reducible assumption) | assumption) | (have e_ := (Kd.N_reads' HO_4.out).1; omega))
                           obtain ⟨ua124_1, uc124_1, rfl, ul124_1, ge124_1⟩ := k47_openF hMe124
                           have hv124_1 := hcc124 1 _ rfl
                           rw [add_field _ _ 1 (by omega)] at hv124_1
                           replace hv124_1 := Option.some.inj (hv124_1.symm.trans hx124_1)
                           injection hv124_1 with hva_ hvn_ hvc_
                           rw [hva_] at ge124_1
                           rw [hvc_] at ul124_1
                           have HL124_1 := Aside0.mk (show Kd.V (Kd.slice 5 (Kd.int .u8)) 42 _ w.heap.size _ _ ((rd_T47 t112 (y55)).f1) from Kd.V_mk ul124_1 ge124_1)
                           clear hva_ hvn_ hvc_ ge124_1 ul124_1
                           clear hcc124 hce124
                           have HR124_1 := Aside0.mk hi124_1
                           have HC124_1 := Aside0.mk hl124_1
                           clear hi124_1 hl124_1
                           replace p124 := eq_true p124
                           replace q124 := eq_true q124
                           have ea_ := Option.some.inj (hx122_1.symm.trans hx124_1)
                           injection ea_ with ea_ en_ ec_
                           subst ea_
                           subst ec_
                           clear en_
                           have p125 : 0 ≤ ((y55) : Int) := of_decide_eq_true (by first | (with_reducible assumption) | assumption)
                           have q125 : (y55) < (t112.length : Int) := of_decide_eq_true (by first | (with_reducible assumption) | assumption)
                           obtain ⟨ad125, A125_1, c125_1, e125, hx125_0, hx125_1, hl125_1, hi125_1⟩ := at_T47 (Kd.N_reads' HO_4.out).2.2 (y55) p125 q125
                           obtain rfl : ad122 = ad125 := (by injection e125)
                           obtain ⟨ce125, hce125, hMe125, hcc125⟩ := Kd.N_get HO_4.out z47 (y55) p125 (by first | exact q125 | exact of_decide_eq_true (by first | (with_reducible assumption) | assumption) | (have e_ := (Kd.N_reads' HO_4.out).1; omega))
                           obtain ⟨ua125_1, uc125_1, rfl, ul125_1, ge125_1⟩ := k47_openF hMe125
                           have hv125_1 := hcc125 1 _ rfl
                           rw [add_field _ _ 1 (by omega)] at hv125_1
                           replace hv125_1 := Option.some.inj (hv125_1.symm.trans hx125_1)
                           injection hv125_1 with hva_ hvn_ hvc_
                           rw [hva_] at ge125_1
                           rw [hvc_] at ul125_1
                           have HL125_1 := Aside0.mk (show Kd.V (Kd.slice 5 (Kd.int .u8)) 42 _ w.heap.size _ _ ((rd_T47 t112 (y55)).f1) from Kd.V_mk ul125_1 ge125_1)
                           clear hva_ hvn_ hvc_ ge125_1 ul125_1
                           clear hcc125 hce125
                           have HR125_1 := Aside0.mk hi125_1
                           have HC125_1 := Aside0.mk hl125_1
                           clear hi125_1 hl125_1
                           replace p125 := eq_true p125
                           replace q125 := eq_true q125
                           have ea_ := Option.some.inj (hx122_1.symm.trans hx125_1)
                           injection ea_ with ea_ en_ ec_
                           subst ea_
                           subst ec_
                           clear en_
                           have p126 : 0 ≤ (0 : Int) := (by omega)
                           have q126 : 0 < (((rd_T47 t112 (y55)).f1).length : Int) := of_decide_eq_true (by first | (with_reducible assumption) | assumption)
                           obtain ⟨ad126, A126_0, c126_0, e126, hx126_0, hl126_0, hi126_0⟩ := at_L1 (by repeat (first | (with_reducible exact HR125_1.out) | (with_reducible refine Kd.C_alloc ?_ _) | (with_reducible refine Kd.C_drewN ?_ _) | (with_reducible refine Kd.C_drew ?_) | exact HR125_1.out)) 0 p126 q126
                           cases e126
                           obtain ⟨ce126, hce126, hMe126, hcc126⟩ := Kd.V_get HL125_1.out [] 0 p126 (by first | exact q126 | exact of_decide_eq_true (by first | (with_reducible assumption) | assumption) | (have e_ := (Kd.V_reads' HL125_1.out).1; omega))
                           obtain ⟨ua126_0, uc126_0, rfl, ul126_0, ge126_0⟩ := Kd.FK_slice_open hMe126
                           have hv126_0 := hcc126 0 _ rfl
                           rw [Nat.add_zero, show ((Kd.slice 5 (Kd.int .u8))).sz = 1 from rfl, Nat.mul_one] at hv126_0
                           replace hv126_0 := Option.some.inj (hv126_0.symm.trans hx126_0)
                           injection hv126_0 with hva_ hvn_ hvc_
                           rw [hva_] at ge126_0
                           rw [hvc_] at ul126_0
                           have HL126_0 := Aside0.mk (show Kd.V (Kd.int .u8) 5 _ w.heap.size _ _ (rd_L1 ((rd_T47 t112 (y55)).f1) 0) from Kd.V_mk ul126_0 ge126_0)
                           clear hva_ hvn_ hvc_ ge126_0 ul126_0
                           clear hcc126 hce126
                           have qi126 : (0 < ((rd_T47 t112 (y55)).f1).length) = True := eq_true (by omega)
                           (try rw [show ((0 : Int)).toNat = 0 from rfl] at hx126_0)
                           (try rw [Addr.add_zero'] at hx126_0)
                           have HR126_0 := Aside0.mk hi126_0
                           have HC126_0 := Aside0.mk hl126_0
                           clear hi126_0 hl126_0
                           replace p126 := eq_true p126
                           replace q126 := eq_true q126
                           refine start_ (n := 41) (S := fun w' => w'.cell? ⟨gb118, 0, none⟩ = some (.int .i64 ((rd_T46 l0 x7_1).f2.f0)) ∧ w'.cell? ⟨gb118, 1, none⟩ = some (.int .i64 ((rd_T46 l0 x7_1).f2.f1)) ∧ w'.cell? ⟨gb118, 2, none⟩ = some (.int .i64 ((rd_T46 l0 x7_1).f2.f2)) ∧ w'.cell? ⟨gb118, 3, none⟩ = some (.int .u8 ((rd_T46 l0 x7_1).f2.f3.f0)) ∧ w'.cell? ⟨gb118, 4, none⟩ = some (.int .u8 ((rd_T46 l0 x7_1).f2.f3.f1)) ∧ w'.cell? ⟨gb118, 5, none⟩ = some (.int .u8 ((rd_T46 l0 x7_1).f2.f3.f2)) ∧ w'.cell? ⟨gb118, 6, none⟩ = some (.int .u8 ((rd_T46 l0 x7_1).f2.f3.f3)) ∧ w'.cell? ⟨gb118, 7, none⟩ = some (.int .u8 ((rd_T46 l0 x7_1).f2.f3.f4)) ∧ w'.cell? ⟨gb118, 8, none⟩ = some (.int .u8 ((rd_T46 l0 x7_1).f2.f3.f5)) ∧ w'.cell? ⟨gb118, 9, none⟩ = some (.slice A117_11 ((rd_T46 l0 x7_1).f2.f4).length c117_11) ∧ w'.cell? ⟨gb118, 10, none⟩ = some (.int .i64 ((rd_T46 l0 x7_1).f2.f5)) ∧ w'.cell? (ad122.add (((y55)).toNat * 2)) = some (.int .i64 ((rd_T47 t112 (y55)).f0)) ∧ w'.cell? ⟨(ad122.add (((y55)).toNat * 2)).block, (ad122.add (((y55)).toNat * 2)).off + 1, none⟩ = some (.slice (some ad126) ((rd_T47 t112 (y55)).f1).length c122_1) ∧ w'.cell? (ad117.add ((x7_1).toNat * 13)) = some (.int .i64 ((rd_T46 l0 x7_1).f0)) ∧ w'.cell? ⟨(ad117.add ((x7_1).toNat * 13)).block, (ad117.add ((x7_1).toNat * 13)).off + 1, none⟩ = some (.int .i64 ((rd_T46 l0 x7_1).f1)) ∧ w'.cell? ⟨(ad117.add ((x7_1).toNat * 13)).block, (ad117.add ((x7_1).toNat * 13)).off + 2, none⟩ = some (.int .i64 ((rd_T46 l0 x7_1).f2.f0)) ∧ w'.cell? ⟨(ad117.add ((x7_1).toNat * 13)).block, (ad117.add ((x7_1).toNat * 13)).off + 3, none⟩ = some (.int .i64 ((rd_T46 l0 x7_1).f2.f1)) ∧ w'.cell? ⟨(ad117.add ((x7_1).toNat * 13)).block, (ad117.add ((x7_1).toNat * 13)).off + 4, none⟩ = some (.int .i64 ((rd_T46 l0 x7_1).f2.f2)) ∧ w'.cell? ⟨(ad117.add ((x7_1).toNat * 13)).block, (ad117.add ((x7_1).toNat * 13)).off + 5, none⟩ = some (.int .u8 ((rd_T46 l0 x7_1).f2.f3.f0)) ∧ w'.cell? ⟨(ad117.add ((x7_1).toNat * 13)).block, (ad117.add ((x7_1).toNat * 13)).off + 6, none⟩ = some (.int .u8 ((rd_T46 l0 x7_1).f2.f3.f1)) ∧ w'.cell? ⟨(ad117.add ((x7_1).toNat * 13)).block, (ad117.add ((x7_1).toNat * 13)).off + 7, none⟩ = some (.int .u8 ((rd_T46 l0 x7_1).f2.f3.f2)) ∧ w'.cell? ⟨(ad117.add ((x7_1).toNat * 13)).block, (ad117.add ((x7_1).toNat * 13)).off + 8, none⟩ = some (.int .u8 ((rd_T46 l0 x7_1).f2.f3.f3)) ∧ w'.cell? ⟨(ad117.add ((x7_1).toNat * 13)).block, (ad117.add ((x7_1).toNat * 13)).off + 9, none⟩ = some (.int .u8 ((rd_T46 l0 x7_1).f2.f3.f4)) ∧ w'.cell? ⟨(ad117.add ((x7_1).toNat * 13)).block, (ad117.add ((x7_1).toNat * 13)).off + 10, none⟩ = some (.int .u8 ((rd_T46 l0 x7_1).f2.f3.f5)) ∧ w'.cell? ⟨(ad117.add ((x7_1).toNat * 13)).block, (ad117.add ((x7_1).toNat * 13)).off + 11, none⟩ = some (.slice A123_11 ((rd_T46 l0 x7_1).f2.f4).length c123_11) ∧ w'.cell? ⟨(ad117.add ((x7_1).toNat * 13)).block, (ad117.add ((x7_1).toNat * 13)).off + 12, none⟩ = some (.int .i64 ((rd_T46 l0 x7_1).f2.f5)) ∧ w'.cell? (ad122.add (((y55)).toNat * 2)) = some (.int .i64 ((rd_T47 t112 (y55)).f0)) ∧ w'.cell? ⟨(ad122.add (((y55)).toNat * 2)).block, (ad122.add (((y55)).toNat * 2)).off + 1, none⟩ = some (.slice (some ad126) ((rd_T47 t112 (y55)).f1).length c122_1) ∧ w'.cell? (ad122.add (((y55)).toNat * 2)) = some (.int .i64 ((rd_T47 t112 (y55)).f0)) ∧ w'.cell? ⟨(ad122.add (((y55)).toNat * 2)).block, (ad122.add (((y55)).toNat * 2)).off + 1, none⟩ = some (.slice (some ad126) ((rd_T47 t112 (y55)).f1).length c122_1) ∧ w'.cell? ad126 = some (.slice A126_0 (rd_L1 ((rd_T47 t112 (y55)).f1) 0).length c126_0)) (ds := []) #[false, false, false, false, false, false, false, false, false, false, false, false, false, false, false, false, false, false, false, false, false, false, false, false, false, false, false, false, false, false, false, false, false, false, false, false, false, false, false, false, false] (by kernel_rfl) rfl rfl ⟨(blk_cell BK118.out 0).trans rfl, (blk_cell BK118.out 1).trans rfl, (blk_cell BK118.out 2).trans rfl, (blk_cell BK118.out 3).trans rfl, (blk_cell BK118.out 4).trans rfl, (blk_cell BK118.out 5).trans rfl, (blk_cell BK118.out 6).trans rfl, (blk_cell BK118.out 7).trans rfl, (blk_cell BK118.out 8).trans rfl, (blk_cell BK118.out 9).trans rfl, (blk_cell BK118.out 10).trans rfl, hx122_0, hx122_1, ((HB.out.cell (World.block_lt_of_cell? w _ hw123_0)).trans hw123_0), ((HB.out.cell (World.block_lt_of_cell? w _ hw123_1)).trans hw123_1), ((HB.out.cell (World.block_lt_of_cell? w _ hw123_2)).trans hw123_2), ((HB.out.cell (World.block_lt_of_cell? w _ hw123_3)).trans hw123_3), ((HB.out.cell (World.block_lt_of_cell? w _ hw123_4)).trans hw123_4), ((HB.out.cell (World.block_lt_of_cell? w _ hw123_5)).trans hw123_5), ((HB.out.cell (World.block_lt_of_cell? w _ hw123_6)).trans hw123_6), ((HB.out.cell (World.block_lt_of_cell? w _ hw123_7)).trans hw123_7), ((HB.out.cell (World.block_lt_of_cell? w _ hw123_8)).trans hw123_8), ((HB.out.cell (World.block_lt_of_cell? w _ hw123_9)).trans hw123_9), ((HB.out.cell (World.block_lt_of_cell? w _ hw123_10)).trans hw123_10), ((HB.out.cell (World.block_lt_of_cell? w _ hw123_11)).trans hw123_11), ((HB.out.cell (World.block_lt_of_cell? w _ hw123_12)).trans hw123_12), hx124_0, hx124_1, hx125_0, hx125_1, hx126_0⟩ (fun hHeld => ?_); refine with_tabW antiphonlaw26_LedgerEpochs.tab20 antiphonlaw26_LedgerEpochs.bits20 (fun HT_ HW_ => ?_)
                           generalize wc.drew = w71 at HO_4 BK108 BK118 HB HL122_1 HL124_1 HL125_1 HL126_0 HR122_1 HR123_11 HR124_1 HR125_1 HR126_0 hx122_0 hx122_1 hx123_0 hx123_1 hx123_10 hx123_11 hx123_12 hx123_2 hx123_3 hx123_4 hx123_5 hx123_6 hx123_7 hx123_8 hx123_9 hx124_0 hx124_1 hx125_0 hx125_1 hx126_0 hHeld ⊢
                           refine pure_ (i := 0) (N := some 87) (v := ?_) (a' := ?_) #[true, false, false, false, false, false, false, false, false, false, false, false, false, false, false, false, false, false, false, false, false, false, false, false, false, false, false, false, false, false, false, false, false, false, false, false, false, false, false, false, false] rfl rfl (any_of HT_.out (by kernel_rfl)) (fun _ _ _ h => h) (Or.inl ⟨by rfl, ?_⟩) ?_ ?_
                           rotate_left
                           ·intro w'
                            go_simp
                            with_reducible rfl
                           rotate_left
                           ·simp only [Act.put, List.setIfInBounds_toArray, List.set_cons_zero, List.set_cons_succ, i64_w, i32_w]
                            rfl
                           refine pure_ (i := 1) (N := some 88) (v := ?_) (a' := ?_) #[true, true, false, false, false, false, false, false, false, false, false, false, false, false, false, false, false, false, false, false, false, false, false, false, false, false, false, false, false, false, false, false, false, false, false, false, false, false, false, false, false] rfl rfl (any_of HT_.out (by kernel_rfl)) (fun _ _ _ h => h) (Or.inl ⟨by rfl, ?_⟩) ?_ ?_
                           rotate_left
                           ·intro w'
                            go_simp
                            with_reducible rfl
                           rotate_left
                           ·simp only [Act.put, List.setIfInBounds_toArray, List.set_cons_zero, List.set_cons_succ, i64_w, i32_w]
                            rfl
                           refine pure_ (i := 2) (N := some 89) (v := ?_) (a' := ?_) #[true, true, true, false, false, false, false, false, false, false, false, false, false, false, false, false, false, false, false, false, false, false, false, false, false, false, false, false, false, false, false, false, false, false, false, false, false, false, false, false, false] rfl rfl (any_of HT_.out (by kernel_rfl)) (fun _ _ _ h => h) (Or.inl ⟨by rfl, ?_⟩) ?_ ?_
                           rotate_left
                           ·intro w'
                            go_simp
                            with_reducible rfl
                           rotate_left
                           ·simp only [Act.put, List.setIfInBounds_toArray, List.set_cons_zero, List.set_cons_succ, i64_w, i32_w]
                            rfl
                           refine pure_ (i := 3) (N := some 90) (v := ?_) (a' := ?_) #[true, true, true, true, false, false, false, false, false, false, false, false, false, false, false, false, false, false, false, false, false, false, false, false, false, false, false, false, false, false, false, false, false, false, false, false, false, false, false, false, false] rfl rfl (any_of HT_.out (by kernel_rfl)) (fun _ _ _ h => h) (Or.inl ⟨by rfl, ?_⟩) ?_ ?_
                           rotate_left
                           ·intro w'
                            go_simp
                            with_reducible rfl
                           rotate_left
                           ·simp only [Act.put, List.setIfInBounds_toArray, List.set_cons_zero, List.set_cons_succ, i64_w, i32_w]
                            rfl
                           refine pure_ (i := 4) (N := some 91) (v := ?_) (a' := ?_) #[true, true, true, true, true, false, false, false, false, false, false, false, false, false, false, false, false, false, false, false, false, false, false, false, false, false, false, false, false, false, false, false, false, false, false, false, false, false, false, false, false] rfl rfl (any_of HT_.out (by kernel_rfl)) (fun _ _ _ h => h) (Or.inl ⟨by rfl, ?_⟩) ?_ ?_
                           rotate_left
                           ·intro w'
                            go_simp
                            with_reducible rfl
                           rotate_left
                           ·simp only [Act.put, List.setIfInBounds_toArray, List.set_cons_zero, List.set_cons_succ, i64_w, i32_w]
                            rfl
                           refine pure_ (i := 5) (N := some 92) (v := ?_) (a' := ?_) #[true, true, true, true, true, true, false, false, false, false, false, false, false, false, false, false, false, false, false, false, false, false, false, false, false, false, false, false, false, false, false, false, false, false, false, false, false, false, false, false, false] rfl rfl (any_of HT_.out (by kernel_rfl)) (fun _ _ _ h => h) (Or.inl ⟨by rfl, ?_⟩) ?_ ?_
                           rotate_left
                           ·intro w'
                            go_simp
                            with_reducible rfl
                           rotate_left
                           ·simp only [Act.put, List.setIfInBounds_toArray, List.set_cons_zero, List.set_cons_succ, i64_w, i32_w]
                            rfl
                           refine pure_ (i := 6) (N := some 93) (v := ?_) (a' := ?_) #[true, true, true, true, true, true, true, false, false, false, false, false, false, false, false, false, false, false, false, false, false, false, false, false, false, false, false, false, false, false, false, false, false, false, false, false, false, false, false, false, false] rfl rfl (any_of HT_.out (by kernel_rfl)) (fun _ _ _ h => h) (Or.inl ⟨by rfl, ?_⟩) ?_ ?_
                           rotate_left
                           ·intro w'
                            go_simp
                            with_reducible rfl
                           rotate_left
                           ·simp only [Act.put, List.setIfInBounds_toArray, List.set_cons_zero, List.set_cons_succ, i64_w, i32_w]
                            rfl
                           refine pure_ (i := 7) (N := some 94) (v := ?_) (a' := ?_) #[true, true, true, true, true, true, true, true, false, false, false, false, false, false, false, false, false, false, false, false, false, false, false, false, false, false, false, false, false, false, false, false, false, false, false, false, false, false, false, false, false] rfl rfl (any_of HT_.out (by kernel_rfl)) (fun _ _ _ h => h) (Or.inl ⟨by rfl, ?_⟩) ?_ ?_
                           rotate_left
                           ·intro w'
                            go_simp
                            with_reducible rfl
                           rotate_left
                           ·simp only [Act.put, List.setIfInBounds_toArray, List.set_cons_zero, List.set_cons_succ, i64_w, i32_w]
                            rfl
                           refine pure_ (i := 8) (N := some 95) (v := ?_) (a' := ?_) #[true, true, true, true, true, true, true, true, true, false, false, false, false, false, false, false, false, false, false, false, false, false, false, false, false, false, false, false, false, false, false, false, false, false, false, false, false, false, false, false, false] rfl rfl (any_of HT_.out (by kernel_rfl)) (fun _ _ _ h => h) (Or.inl ⟨by rfl, ?_⟩) ?_ ?_
                           rotate_left
                           ·intro w'
                            go_simp
                            with_reducible rfl
                           rotate_left
                           ·simp only [Act.put, List.setIfInBounds_toArray, List.set_cons_zero, List.set_cons_succ, i64_w, i32_w]
                            rfl
                           refine pure_ (i := 10) (N := some 97) (v := ?_) (a' := ?_) #[true, true, true, true, true, true, true, true, true, false, true, false, false, false, false, false, false, false, false, false, false, false, false, false, false, false, false, false, false, false, false, false, false, false, false, false, false, false, false, false, false] rfl rfl (any_of HT_.out (by kernel_rfl)) (fun _ _ _ h => h) (Or.inl ⟨by rfl, ?_⟩) ?_ ?_
                           rotate_left
                           ·intro w'
                            go_simp
                            with_reducible rfl
                           rotate_left
                           ·simp only [Act.put, List.setIfInBounds_toArray, List.set_cons_zero, List.set_cons_succ, i64_w, i32_w]
                            rfl
                           refine pure_ (i := 11) (N := some 98) (v := ?_) (a' := ?_) #[true, true, true, true, true, true, true, true, true, false, true, true, false, false, false, false, false, false, false, false, false, false, false, false, false, false, false, false, false, false, false, false, false, false, false, false, false, false, false, false, false] rfl rfl (any_of HT_.out (by kernel_rfl)) (fun _ _ _ h => h) (Or.inl ⟨by rfl, ?_⟩) ?_ ?_
                           rotate_left
                           ·intro w'
                            go_simp
                            with_reducible rfl
                           rotate_left
                           ·simp only [Act.put, List.setIfInBounds_toArray, List.set_cons_zero, List.set_cons_succ, i64_w, i32_w]
                            rfl
                           refine pure_ (i := 12) (N := some 99) (v := ?_) (a' := ?_) #[true, true, true, true, true, true, true, true, true, false, true, true, true, false, false, false, false, false, false, false, false, false, false, false, false, false, false, false, false, false, false, false, false, false, false, false, false, false, false, false, false] rfl rfl (any_of HT_.out (by kernel_rfl)) (fun _ _ _ h => h) (Or.inl ⟨by rfl, ?_⟩) ?_ ?_
                           rotate_left
                           ·intro w'
                            go_simp
                            with_reducible rfl
                           rotate_left
                           ·simp only [Act.put, List.setIfInBounds_toArray, List.set_cons_zero, List.set_cons_succ, i64_w, i32_w]
                            rfl
                           refine pure_ (i := 13) (N := some 100) (v := ?_) (a' := ?_) #[true, true, true, true, true, true, true, true, true, false, true, true, true, true, false, false, false, false, false, false, false, false, false, false, false, false, false, false, false, false, false, false, false, false, false, false, false, false, false, false, false] rfl rfl (any_of HT_.out (by kernel_rfl)) (fun _ _ _ h => h) (Or.inl ⟨by rfl, ?_⟩) ?_ ?_
                           rotate_left
                           ·intro w'
                            go_simp
                            with_reducible rfl
                           rotate_left
                           ·simp only [Act.put, List.setIfInBounds_toArray, List.set_cons_zero, List.set_cons_succ, i64_w, i32_w]
                            rfl
                           refine take_ (i := 9) (N := some 96) (v := ?_) (a' := ?_) #[true, true, true, true, true, true, true, true, true, true, true, true, true, true, false, false, false, false, false, false, false, false, false, false, false, false, false, false, false, false, false, false, false, false, false, false, false, false, false, false, false] rfl rfl (take_ofW HT_.out HW_.out (by kernel_rfl)) (fun _ _ _ h => h) (Or.inl ⟨by rfl, ?_⟩) hHeld ?_ ?_
                           rotate_left
                           ·rintro w' ⟨s0, s1, s2, s3, s4, s5, s6, s7, s8, s9, s10, s11, s12, s13, s14, s15, s16, s17, s18, s19, s20, s21, s22, s23, s24, s25, s26, s27, s28, s29, s30⟩
                            go_simp
                            with_reducible rfl
                           rotate_left
                           ·simp only [Act.put, List.setIfInBounds_toArray, List.set_cons_zero, List.set_cons_succ, i64_w, i32_w]
                            rfl
                           refine take_ (i := 14) (N := some 101) (v := ?_) (a' := ?_) #[true, true, true, true, true, true, true, true, true, true, true, true, true, true, true, false, false, false, false, false, false, false, false, false, false, false, false, false, false, false, false, false, false, false, false, false, false, false, false, false, false] rfl rfl (take_ofW HT_.out HW_.out (by kernel_rfl)) (fun _ _ _ h => h) (Or.inl ⟨by rfl, ?_⟩) hHeld ?_ ?_
                           rotate_left
                           ·rintro w' ⟨s0, s1, s2, s3, s4, s5, s6, s7, s8, s9, s10, s11, s12, s13, s14, s15, s16, s17, s18, s19, s20, s21, s22, s23, s24, s25, s26, s27, s28, s29, s30⟩
                            go_simp
                            with_reducible rfl
                           rotate_left
                           ·simp only [Act.put, List.setIfInBounds_toArray, List.set_cons_zero, List.set_cons_succ, i64_w, i32_w]
                            rfl
                           refine pure_ (i := 15) (N := some 102) (v := ?_) (a' := ?_) #[true, true, true, true, true, true, true, true, true, true, true, true, true, true, true, true, false, false, false, false, false, false, false, false, false, false, false, false, false, false, false, false, false, false, false, false, false, false, false, false, false] rfl rfl (any_of HT_.out (by kernel_rfl)) (fun _ _ _ h => h) (Or.inl ⟨by rfl, ?_⟩) ?_ ?_
                           rotate_left
                           ·intro w'
                            go_simp
                            with_reducible rfl
                           rotate_left
                           ·simp only [Act.put, List.setIfInBounds_toArray, List.set_cons_zero, List.set_cons_succ, i64_w, i32_w]
                            rfl
                           refine pure_ (i := 16) (N := some 103) (v := ?_) (a' := ?_) #[true, true, true, true, true, true, true, true, true, true, true, true, true, true, true, true, true, false, false, false, false, false, false, false, false, false, false, false, false, false, false, false, false, false, false, false, false, false, false, false, false] rfl rfl (any_of HT_.out (by kernel_rfl)) (fun _ _ _ h => h) (Or.inl ⟨by rfl, ?_⟩) ?_ ?_
                           rotate_left
                           ·intro w'
                            go_simp
                            with_reducible rfl
                           rotate_left
                           ·simp only [Act.put, List.setIfInBounds_toArray, List.set_cons_zero, List.set_cons_succ, i64_w, i32_w]
                            rfl
                           refine pure_ (i := 17) (N := some 104) (v := ?_) (a' := ?_) #[true, true, true, true, true, true, true, true, true, true, true, true, true, true, true, true, true, true, false, false, false, false, false, false, false, false, false, false, false, false, false, false, false, false, false, false, false, false, false, false, false] rfl rfl (any_of HT_.out (by kernel_rfl)) (fun _ _ _ h => h) (Or.inl ⟨by rfl, ?_⟩) ?_ ?_
                           rotate_left
                           ·intro w'
                            go_simp
                            with_reducible rfl
                           rotate_left
                           ·simp only [Act.put, List.setIfInBounds_toArray, List.set_cons_zero, List.set_cons_succ, i64_w, i32_w]
                            rfl
                           refine pure_ (i := 18) (N := some 105) (v := ?_) (a' := ?_) #[true, true, true, true, true, true, true, true, true, true, true, true, true, true, true, true, true, true, true, false, false, false, false, false, false, false, false, false, false, false, false, false, false, false, false, false, false, false, false, false, false] rfl rfl (any_of HT_.out (by kernel_rfl)) (fun _ _ _ h => h) (Or.inl ⟨by rfl, ?_⟩) ?_ ?_
                           rotate_left
                           ·intro w'
                            go_simp
                            with_reducible rfl
                           rotate_left
                           ·simp only [Act.put, List.setIfInBounds_toArray, List.set_cons_zero, List.set_cons_succ, i64_w, i32_w]
                            rfl
                           refine pure_ (i := 19) (N := some 106) (v := ?_) (a' := ?_) #[true, true, true, true, true, true, true, true, true, true, true, true, true, true, true, true, true, true, true, true, false, false, false, false, false, false, false, false, false, false, false, false, false, false, false, false, false, false, false, false, false] rfl rfl (any_of HT_.out (by kernel_rfl)) (fun _ _ _ h => h) (Or.inl ⟨by rfl, ?_⟩) ?_ ?_
                           rotate_left
                           ·intro w'
                            go_simp
                            with_reducible rfl
                           rotate_left
                           ·simp only [Act.put, List.setIfInBounds_toArray, List.set_cons_zero, List.set_cons_succ, i64_w, i32_w]
                            rfl
                           refine pure_ (i := 20) (N := some 107) (v := ?_) (a' := ?_) #[true, true, true, true, true, true, true, true, true, true, true, true, true, true, true, true, true, true, true, true, true, false, false, false, false, false, false, false, false, false, false, false, false, false, false, false, false, false, false, false, false] rfl rfl (any_of HT_.out (by kernel_rfl)) (fun _ _ _ h => h) (Or.inl ⟨by rfl, ?_⟩) ?_ ?_
                           rotate_left
                           ·intro w'
                            go_simp
                            with_reducible rfl
                           rotate_left
                           ·simp only [Act.put, List.setIfInBounds_toArray, List.set_cons_zero, List.set_cons_succ, i64_w, i32_w]
                            rfl
                           refine pure_ (i := 21) (N := some 108) (v := ?_) (a' := ?_) #[true, true, true, true, true, true, true, true, true, true, true, true, true, true, true, true, true, true, true, true, true, true, false, false, false, false, false, false, false, false, false, false, false, false, false, false, false, false, false, false, false] rfl rfl (any_of HT_.out (by kernel_rfl)) (fun _ _ _ h => h) (Or.inl ⟨by rfl, ?_⟩) ?_ ?_
                           rotate_left
                           ·intro w'
                            go_simp
                            with_reducible rfl
                           rotate_left
                           ·simp only [Act.put, List.setIfInBounds_toArray, List.set_cons_zero, List.set_cons_succ, i64_w, i32_w]
                            rfl
                           refine pure_ (i := 22) (N := some 109) (v := ?_) (a' := ?_) #[true, true, true, true, true, true, true, true, true, true, true, true, true, true, true, true, true, true, true, true, true, true, true, false, false, false, false, false, false, false, false, false, false, false, false, false, false, false, false, false, false] rfl rfl (any_of HT_.out (by kernel_rfl)) (fun _ _ _ h => h) (Or.inl ⟨by rfl, ?_⟩) ?_ ?_
                           rotate_left
                           ·intro w'
                            go_simp
                            with_reducible rfl
                           rotate_left
                           ·simp only [Act.put, List.setIfInBounds_toArray, List.set_cons_zero, List.set_cons_succ, i64_w, i32_w]
                            rfl
                           refine take_ (i := 23) (N := some 110) (v := ?_) (a' := ?_) #[true, true, true, true, true, true, true, true, true, true, true, true, true, true, true, true, true, true, true, true, true, true, true, true, false, false, false, false, false, false, false, false, false, false, false, false, false, false, false, false, false] rfl rfl (take_ofW HT_.out HW_.out (by kernel_rfl)) (fun _ _ _ h => h) (Or.inl ⟨by rfl, ?_⟩) hHeld ?_ ?_
                           rotate_left
                           ·rintro w' ⟨s0, s1, s2, s3, s4, s5, s6, s7, s8, s9, s10, s11, s12, s13, s14, s15, s16, s17, s18, s19, s20, s21, s22, s23, s24, s25, s26, s27, s28, s29, s30⟩
                            go_simp
                            with_reducible rfl
                           rotate_left
                           ·simp only [Act.put, List.setIfInBounds_toArray, List.set_cons_zero, List.set_cons_succ, i64_w, i32_w]
                            rfl
                           refine pure_ (i := 24) (N := some 111) (v := ?_) (a' := ?_) #[true, true, true, true, true, true, true, true, true, true, true, true, true, true, true, true, true, true, true, true, true, true, true, true, true, false, false, false, false, false, false, false, false, false, false, false, false, false, false, false, false] rfl rfl (any_of HT_.out (by kernel_rfl)) (fun _ _ _ h => h) (Or.inl ⟨by rfl, ?_⟩) ?_ ?_
                           rotate_left
                           ·intro w'
                            go_simp
                            with_reducible rfl
                           rotate_left
                           ·simp only [Act.put, List.setIfInBounds_toArray, List.set_cons_zero, List.set_cons_succ, i64_w, i32_w]
                            rfl
                           refine pure_ (i := 25) (N := some 112) (v := ?_) (a' := ?_) #[true, true, true, true, true, true, true, true, true, true, true, true, true, true, true, true, true, true, true, true, true, true, true, true, true, true, false, false, false, false, false, false, false, false, false, false, false, false, false, false, false] rfl rfl (any_of HT_.out (by kernel_rfl)) (fun _ _ _ h => h) (Or.inl ⟨by rfl, ?_⟩) ?_ ?_
                           rotate_left
                           ·intro w'
                            go_simp
                            with_reducible rfl
                           rotate_left
                           ·simp only [Act.put, List.setIfInBounds_toArray, List.set_cons_zero, List.set_cons_succ, i64_w, i32_w]
                            rfl
                           refine pure_ (i := 26) (N := some 113) (v := ?_) (a' := ?_) #[true, true, true, true, true, true, true, true, true, true, true, true, true, true, true, true, true, true, true, true, true, true, true, true, true, true, true, false, false, false, false, false, false, false, false, false, false, false, false, false, false] rfl rfl (any_of HT_.out (by kernel_rfl)) (fun _ _ _ h => h) (Or.inl ⟨by rfl, ?_⟩) ?_ ?_
                           rotate_left
                           ·intro w'
                            go_simp
                            with_reducible rfl
                           rotate_left
                           ·simp only [Act.put, List.setIfInBounds_toArray, List.set_cons_zero, List.set_cons_succ, i64_w, i32_w]
                            rfl
                           refine pure_ (i := 27) (N := some 114) (v := ?_) (a' := ?_) #[true, true, true, true, true, true, true, true, true, true, true, true, true, true, true, true, true, true, true, true, true, true, true, true, true, true, true, true, false, false, false, false, false, false, false, false, false, false, false, false, false] rfl rfl (any_of HT_.out (by kernel_rfl)) (fun _ _ _ h => h) (Or.inl ⟨by rfl, ?_⟩) ?_ ?_
                           rotate_left
                           ·intro w'
                            go_simp
                            with_reducible rfl
                           rotate_left
                           ·simp only [Act.put, List.setIfInBounds_toArray, List.set_cons_zero, List.set_cons_succ, i64_w, i32_w]
                            rfl
                           refine pure_ (i := 28) (N := some 115) (v := ?_) (a' := ?_) #[true, true, true, true, true, true, true, true, true, true, true, true, true, true, true, true, true, true, true, true, true, true, true, true, true, true, true, true, true, false, false, false, false, false, false, false, false, false, false, false, false] rfl rfl (any_of HT_.out (by kernel_rfl)) (fun _ _ _ h => h) (Or.inl ⟨by rfl, ?_⟩) ?_ ?_
                           rotate_left
                           ·intro w'
                            go_simp
                            with_reducible rfl
                           rotate_left
                           ·simp only [Act.put, List.setIfInBounds_toArray, List.set_cons_zero, List.set_cons_succ, i64_w, i32_w]
                            rfl
                           refine pure_ (i := 29) (N := some 116) (v := ?_) (a' := ?_) #[true, true, true, true, true, true, true, true, true, true, true, true, true, true, true, true, true, true, true, true, true, true, true, true, true, true, true, true, true, true, false, false, false, false, false, false, false, false, false, false, false] rfl rfl (any_of HT_.out (by kernel_rfl)) (fun _ _ _ h => h) (Or.inl ⟨by rfl, ?_⟩) ?_ ?_
                           rotate_left
                           ·intro w'
                            go_simp
                            with_reducible rfl
                           rotate_left
                           ·simp only [Act.put, List.setIfInBounds_toArray, List.set_cons_zero, List.set_cons_succ, i64_w, i32_w]
                            rfl
                           refine pure_ (i := 30) (N := some 117) (v := ?_) (a' := ?_) #[true, true, true, true, true, true, true, true, true, true, true, true, true, true, true, true, true, true, true, true, true, true, true, true, true, true, true, true, true, true, true, false, false, false, false, false, false, false, false, false, false] rfl rfl (any_of HT_.out (by kernel_rfl)) (fun _ _ _ h => h) (Or.inl ⟨by rfl, ?_⟩) ?_ ?_
                           rotate_left
                           ·intro w'
                            go_simp
                            with_reducible rfl
                           rotate_left
                           ·simp only [Act.put, List.setIfInBounds_toArray, List.set_cons_zero, List.set_cons_succ, i64_w, i32_w]
                            rfl
                           refine pure_ (i := 31) (N := some 118) (v := ?_) (a' := ?_) #[true, true, true, true, true, true, true, true, true, true, true, true, true, true, true, true, true, true, true, true, true, true, true, true, true, true, true, true, true, true, true, true, false, false, false, false, false, false, false, false, false] rfl rfl (any_of HT_.out (by kernel_rfl)) (fun _ _ _ h => h) (Or.inl ⟨by rfl, ?_⟩) ?_ ?_
                           rotate_left
                           ·intro w'
                            go_simp
                            with_reducible rfl
                           rotate_left
                           ·simp only [Act.put, List.setIfInBounds_toArray, List.set_cons_zero, List.set_cons_succ, i64_w, i32_w]
                            rfl
                           refine pure_ (i := 33) (N := some 120) (v := ?_) (a' := ?_) #[true, true, true, true, true, true, true, true, true, true, true, true, true, true, true, true, true, true, true, true, true, true, true, true, true, true, true, true, true, true, true, true, false, true, false, false, false, false, false, false, false] rfl rfl (any_of HT_.out (by kernel_rfl)) (fun _ _ _ h => h) (Or.inl ⟨by rfl, ?_⟩) ?_ ?_
                           rotate_left
                           ·intro w'
                            go_simp
                            with_reducible rfl
                           rotate_left
                           ·simp only [Act.put, List.setIfInBounds_toArray, List.set_cons_zero, List.set_cons_succ, i64_w, i32_w]
                            rfl
                           refine pure_ (i := 36) (N := some 123) (v := ?_) (a' := ?_) #[true, true, true, true, true, true, true, true, true, true, true, true, true, true, true, true, true, true, true, true, true, true, true, true, true, true, true, true, true, true, true, true, false, true, false, false, true, false, false, false, false] rfl rfl (any_of HT_.out (by kernel_rfl)) (fun _ _ _ h => h) (Or.inl ⟨by rfl, ?_⟩) ?_ ?_
                           rotate_left
                           ·intro w'
                            go_simp
                            with_reducible rfl
                           rotate_left
                           ·simp only [Act.put, List.setIfInBounds_toArray, List.set_cons_zero, List.set_cons_succ, i64_w, i32_w]
                            rfl
                           refine take_ (i := 32) (N := some 119) (v := ?_) (a' := ?_) #[true, true, true, true, true, true, true, true, true, true, true, true, true, true, true, true, true, true, true, true, true, true, true, true, true, true, true, true, true, true, true, true, true, true, false, false, true, false, false, false, false] rfl rfl (take_ofW HT_.out HW_.out (by kernel_rfl)) (fun _ _ _ h => h) (Or.inl ⟨by rfl, ?_⟩) hHeld ?_ ?_
                           rotate_left
                           ·rintro w' ⟨s0, s1, s2, s3, s4, s5, s6, s7, s8, s9, s10, s11, s12, s13, s14, s15, s16, s17, s18, s19, s20, s21, s22, s23, s24, s25, s26, s27, s28, s29, s30⟩
                            go_simp
                            with_reducible rfl
                           rotate_left
                           ·simp only [Act.put, List.setIfInBounds_toArray, List.set_cons_zero, List.set_cons_succ, i64_w, i32_w]
                            rfl
                           refine pure_ (i := 34) (N := some 121) (v := ?_) (a' := ?_) #[true, true, true, true, true, true, true, true, true, true, true, true, true, true, true, true, true, true, true, true, true, true, true, true, true, true, true, true, true, true, true, true, true, true, true, false, true, false, false, false, false] rfl rfl (any_of HT_.out (by kernel_rfl)) (fun _ _ _ h => h) (Or.inl ⟨by rfl, ?_⟩) ?_ ?_
                           rotate_left
                           ·intro w'
                            go_simp
                            with_reducible rfl
                           rotate_left
                           ·simp only [Act.put, List.setIfInBounds_toArray, List.set_cons_zero, List.set_cons_succ, i64_w, i32_w]
                            rfl
                           refine take_ (i := 35) (N := some 122) (v := ?_) (a' := ?_) #[true, true, true, true, true, true, true, true, true, true, true, true, true, true, true, true, true, true, true, true, true, true, true, true, true, true, true, true, true, true, true, true, true, true, true, true, true, false, false, false, false] rfl rfl (take_ofW HT_.out HW_.out (by kernel_rfl)) (fun _ _ _ h => h) (Or.inl ⟨by rfl, ?_⟩) hHeld ?_ ?_
                           rotate_left
                           ·rintro w' ⟨s0, s1, s2, s3, s4, s5, s6, s7, s8, s9, s10, s11, s12, s13, s14, s15, s16, s17, s18, s19, s20, s21, s22, s23, s24, s25, s26, s27, s28, s29, s30⟩
                            go_simp
                            with_reducible rfl
                           rotate_left
                           ·simp only [Act.put, List.setIfInBounds_toArray, List.set_cons_zero, List.set_cons_succ, i64_w, i32_w]
                            rfl
                           refine take_ (i := 37) (N := some 124) (v := ?_) (a' := ?_) #[true, true, true, true, true, true, true, true, true, true, true, true, true, true, true, true, true, true, true, true, true, true, true, true, true, true, true, true, true, true, true, true, true, true, true, true, true, true, false, false, false] rfl rfl (take_ofW HT_.out HW_.out (by kernel_rfl)) (fun _ _ _ h => h) (Or.inl ⟨by rfl, ?_⟩) hHeld ?_ ?_
                           rotate_left
                           ·rintro w' ⟨s0, s1, s2, s3, s4, s5, s6, s7, s8, s9, s10, s11, s12, s13, s14, s15, s16, s17, s18, s19, s20, s21, s22, s23, s24, s25, s26, s27, s28, s29, s30⟩
                            go_simp
                            with_reducible rfl
                           rotate_left
                           ·simp only [Act.put, List.setIfInBounds_toArray, List.set_cons_zero, List.set_cons_succ, i64_w, i32_w]
                            rfl
                           refine one_ (i := 38) (N := some 125) #[true, true, true, true, true, true, true, true, true, true, true, true, true, true, true, true, true, true, true, true, true, true, true, true, true, true, true, true, true, true, true, true, true, true, true, true, true, true, true, false, false] rfl rfl (one_of HT_.out (by kernel_rfl)) (by decide) (fun K hK => ?_)
                           refine goes_ Try.func18 (by kernel_rfl) rfl #[.slice A126_0 (rd_L1 ((rd_T47 t112 (y55)).f1) 0).length c126_0, .slice A117_11 ((rd_T46 l0 x7_1).f2.f4).length c117_11] (by rfl) rfl rfl (by (try simp only [List.map_toArray, List.map_cons, List.map_nil]); first | done | (simp only []; rfl) | rfl | (simp only [List.length_drop, List.length_take]; rfl)) ?_
                           with_reducible refine (antiphonref1_Same.calls kj46 _ _ (rd_L1 ((rd_T47 t112 (y55)).f1) 0) _ _ ((rd_T46 l0 x7_1).f2.f4) true _ ?side1 ?side2 ?side3 ?side4 A69.out).mono ?_
                           (case side1 => repeat (first | exact (by repeat (first | (with_reducible exact HR126_0.out) | (with_reducible refine Kd.C_alloc ?_ _) | (with_reducible refine Kd.C_drewN ?_ _) | (with_reducible refine Kd.C_drew ?_) | exact HR126_0.out)) | (with_reducible refine Kd.C_alloc ?_ _) | (with_reducible refine Kd.C_drewN ?_ _) | (with_reducible refine Kd.C_drew ?_)))
                           (case side2 => exact HC126_0.out)
                           (case side3 => repeat (first | exact (Kd.C_below HR117_11.out HB.out) | (with_reducible refine Kd.C_alloc ?_ _) | (with_reducible refine Kd.C_drewN ?_ _) | (with_reducible refine Kd.C_drew ?_)))
                           (case side4 => exact HC117_11.out)
                           rintro e w' ⟨rfl, ⟨nd, rfl⟩⟩
                           refine ⟨_, rfl, ?_⟩
                           refine hK.out _ _ ⟨(blk_cell BK118.out 0).trans rfl, (blk_cell BK118.out 1).trans rfl, (blk_cell BK118.out 2).trans rfl, (blk_cell BK118.out 3).trans rfl, (blk_cell BK118.out 4).trans rfl, (blk_cell BK118.out 5).trans rfl, (blk_cell BK118.out 6).trans rfl, (blk_cell BK118.out 7).trans rfl, (blk_cell BK118.out 8).trans rfl, (blk_cell BK118.out 9).trans rfl, (blk_cell BK118.out 10).trans rfl, hHeld.2.2.2.2.2.2.2.2.2.2.2.1, hHeld.2.2.2.2.2.2.2.2.2.2.2.2.1, ((HB.out.cell (World.block_lt_of_cell? w _ hw123_0)).trans hw123_0), ((HB.out.cell (World.block_lt_of_cell? w _ hw123_1)).trans hw123_1), ((HB.out.cell (World.block_lt_of_cell? w _ hw123_2)).trans hw123_2), ((HB.out.cell (World.block_lt_of_cell? w _ hw123_3)).trans hw123_3), ((HB.out.cell (World.block_lt_of_cell? w _ hw123_4)).trans hw123_4), ((HB.out.cell (World.block_lt_of_cell? w _ hw123_5)).trans hw123_5), ((HB.out.cell (World.block_lt_of_cell? w _ hw123_6)).trans hw123_6), ((HB.out.cell (World.block_lt_of_cell? w _ hw123_7)).trans hw123_7), ((HB.out.cell (World.block_lt_of_cell? w _ hw123_8)).trans hw123_8), ((HB.out.cell (World.block_lt_of_cell? w _ hw123_9)).trans hw123_9), ((HB.out.cell (World.block_lt_of_cell? w _ hw123_10)).trans hw123_10), ((HB.out.cell (World.block_lt_of_cell? w _ hw123_11)).trans hw123_11), ((HB.out.cell (World.block_lt_of_cell? w _ hw123_12)).trans hw123_12), hHeld.2.2.2.2.2.2.2.2.2.2.2.2.2.2.2.2.2.2.2.2.2.2.2.2.2.2.1, hHeld.2.2.2.2.2.2.2.2.2.2.2.2.2.2.2.2.2.2.2.2.2.2.2.2.2.2.2.1, hHeld.2.2.2.2.2.2.2.2.2.2.2.2.2.2.2.2.2.2.2.2.2.2.2.2.2.2.2.2.1, hHeld.2.2.2.2.2.2.2.2.2.2.2.2.2.2.2.2.2.2.2.2.2.2.2.2.2.2.2.2.2.1, hHeld.2.2.2.2.2.2.2.2.2.2.2.2.2.2.2.2.2.2.2.2.2.2.2.2.2.2.2.2.2.2⟩ (fun hHeld => ?_)
                           clear hK K
                           refine norm_ (a' := ?_) ?_ ?_
                           rotate_left
                           ·show Act.put _ (some 125) _ = _
                            simp only [Act.put, List.setIfInBounds_toArray, List.set_cons_zero, List.set_cons_succ, i64_w, i32_w]
                            rfl
                           refine pure_ (i := 39) (N := some 126) (v := ?_) (a' := ?_) #[true, true, true, true, true, true, true, true, true, true, true, true, true, true, true, true, true, true, true, true, true, true, true, true, true, true, true, true, true, true, true, true, true, true, true, true, true, true, true, true, false] rfl rfl (any_of HT_.out (by kernel_rfl)) (fun _ _ _ h => h) (Or.inl ⟨by rfl, ?_⟩) ?_ ?_
                           rotate_left
                           ·intro w'
                            go_simp
                            with_reducible rfl
                           rotate_left
                           ·simp only [Act.put, List.setIfInBounds_toArray, List.set_cons_zero, List.set_cons_succ, i64_w, i32_w]
                            rfl
                           refine pure_ (i := 40) (N := some 127) (v := ?_) (a' := ?_) #[true, true, true, true, true, true, true, true, true, true, true, true, true, true, true, true, true, true, true, true, true, true, true, true, true, true, true, true, true, true, true, true, true, true, true, true, true, true, true, true, true] rfl rfl (any_of HT_.out (by kernel_rfl)) (fun _ _ _ h => h) (Or.inl ⟨by rfl, ?_⟩) ?_ ?_
                           rotate_left
                           ·intro w'
                            go_simp
                            with_reducible rfl
                           rotate_left
                           ·simp only [Act.put, List.setIfInBounds_toArray, List.set_cons_zero, List.set_cons_succ, i64_w, i32_w]
                            rfl
                           refine done_ (done_of HT_.out (by kernel_rfl)) ?_
                           try go_wp2
                           go_roundg kj46
                           case measure => have := HK1.out; have := HJ23.out; have := HJ40.out; have := HJ46.out; omega
                           case rel => exact ⟨((y55)), (wrap64 (0 + 1)), (wrap64 (x7_1 + 1)), (by first | rfl | (simp; done) | (simp only [] <;> (first | rfl | simp)) | (simp [*]; done)), (by first | rfl | (simp; done) | (simp; unfold wrap64; omega)), (by first | rfl | (simp; done) | (simp [*]; done)), H', ⟨by have := HK1.out; have := HJ23.out; have := HJ40.out; have := HJ46.out; omega⟩, ⟨by (with_reducible repeat (first | apply Kd.N_alloc | apply Kd.N_drewN | apply Kd.N_drew)); exact Kd.N_mono HO_4.out (fun _ hk => hk.1)⟩, ⟨by (with_reducible repeat (first | refine blk_drewN ?_ _ | refine blk_drew ?_ | refine blk_alloc ?_ _)); exact BK108.out⟩, ⟨by repeat (first | (with_reducible first | exact HB.out | apply below_alloc | apply pw_below_drewN | apply below_drew1 | refine below_set ?_ GE108.out | refine below_set ?_ GE118.out) | exact HB.out)⟩⟩
                          ·replace c70 := Bool.eq_false_iff.mpr c70
                           subst c70
                           have H1 : (none) = some r := by rw [if_neg (show ¬ (false = true) by decide)] at H; exact H
                           clear H
                           have H := H1
                           clear H1
                           exact absurd H (by simp)
                         ·rw [if_neg c68] at H
                          exact absurd H (by simp)
                        ·rw [if_neg c67] at H
                         exact absurd H (by simp)
                      ·rw [if_neg c65] at H
                       have c65b0 : (((rd_T47 t112 (y55)).f0) == ((rd_T46 l0 x7_1).f1)) = false := beq_eq_false_iff_ne.mpr c65
                       have c65b1 : (((rd_T47 t112 (y55)).f0) != ((rd_T46 l0 x7_1).f1)) = true := bne_iff_ne.mpr c65
                       exact absurd H (by simp)
                     ·rw [if_neg c64] at H
                      exact absurd H (by simp)
                    ·rw [if_neg c63] at H
                     exact absurd H (by simp)
                   ·rw [if_neg c62] at H
                    exact absurd H (by simp)
                  ·rw [if_neg c61] at H
                   exact absurd H (by simp)
             ·replace c46 := Bool.eq_false_iff.mpr c46
              subst c46
              have H1 : (if x5_1 ≥ (t112.length : Int) then (none) else (if 0 ≤ x5_1 then (if x5_1 < (t112.length : Int) then (if 0 ≤ x7_1 then (if x7_1 < (l0.length : Int) then (if ((rd_T47 t112 x5_1).f0) = ((rd_T46 l0 x7_1).f1) then (if x6_1 ≥ (((rd_T47 t112 x5_1).f1).length : Int) then (none) else (if 0 ≤ x6_1 then (if x6_1 < (((rd_T47 t112 x5_1).f1).length : Int) then ((antiphonref1_Same.f kj40 (rd_L1 ((rd_T47 t112 x5_1).f1) x6_1) ((rd_T46 l0 x7_1).f2.f4)).bind fun t133 => (if t133 = true then (antiphonlaw26_LedgerEpochs.l0 kj40 l0 t112 x5_1 (wrap64 (x6_1 + 1)) (wrap64 (x7_1 + 1)) t102 t103 t104 t105 t106 t107) else (none))) else (none)) else (none))) else (none)) else (none)) else (none)) else (none)) else (none))) = some r := by rw [if_neg (show ¬ (false = true) by decide)] at H; exact H
              clear H
              have H := H1
              clear H1
              by_cases c73 : x5_1 ≥ (t112.length : Int)
              ·rw [if_pos c73] at H
               have c73b0 : decide ((t112.length : Int) ≤ x5_1) = true := decide_eq_true c73
               clear c73
               exact absurd H (by simp)
              ·rw [if_neg c73] at H
               have c73b0 : decide ((t112.length : Int) ≤ x5_1) = false := decide_eq_false c73
               clear c73
               by_cases c74 : 0 ≤ x5_1
               ·rw [if_pos c74] at H
                have c74b0 : decide (0 ≤ x5_1) = true := decide_eq_true c74
                clear c74
                by_cases c75 : x5_1 < (t112.length : Int)
                ·rw [if_pos c75] at H
                 have c75b0 : decide (x5_1 < (t112.length : Int)) = true := decide_eq_true c75
                 clear c75
                 by_cases c76 : 0 ≤ x7_1
                 ·rw [if_pos c76] at H
                  have c76b0 : decide (0 ≤ x7_1) = true := decide_eq_true c76
                  clear c76
                  by_cases c77 : x7_1 < (l0.length : Int)
                  ·rw [if_pos c77] at H
                   have c77b0 : decide (x7_1 < (l0.length : Int)) = true := decide_eq_true c77
                   clear c77
                   by_cases c78 : ((rd_T47 t112 x5_1).f0) = ((rd_T46 l0 x7_1).f1)
                   ·rw [if_pos c78] at H
                    have c78b0 : (((rd_T47 t112 x5_1).f0) == ((rd_T46 l0 x7_1).f1)) = true := beq_iff_eq.mpr c78
                    have c78b1 : (((rd_T47 t112 x5_1).f0) != ((rd_T46 l0 x7_1).f1)) = false := bne_eq_false_iff_eq.mpr c78
                    clear c78
                    by_cases c79 : x6_1 ≥ (((rd_T47 t112 x5_1).f1).length : Int)
                    ·rw [if_pos c79] at H
                     have c79b0 : decide ((((rd_T47 t112 x5_1).f1).length : Int) ≤ x6_1) = true := decide_eq_true c79
                     clear c79
                     exact absurd H (by simp)
                    ·rw [if_neg c79] at H
                     have c79b0 : decide ((((rd_T47 t112 x5_1).f1).length : Int) ≤ x6_1) = false := decide_eq_false c79
                     clear c79
                     by_cases c80 : 0 ≤ x6_1
                     ·rw [if_pos c80] at H
                      have c80b0 : decide (0 ≤ x6_1) = true := decide_eq_true c80
                      clear c80
                      by_cases c81 : x6_1 < (((rd_T47 t112 x5_1).f1).length : Int)
                      ·rw [if_pos c81] at H
                       have c81b0 : decide (x6_1 < (((rd_T47 t112 x5_1).f1).length : Int)) = true := decide_eq_true c81
                       clear c81
                       replace H := Option.bind_eq_some_iff.mp H
                       obtain ⟨t133, A820, H⟩ := H
                       replace H : (if t133 = true then (antiphonlaw26_LedgerEpochs.l0 kj40 l0 t112 x5_1 (wrap64 (x6_1 + 1)) (wrap64 (x7_1 + 1)) t102 t103 t104 t105 t106 t107) else (none)) = some r := H
                       have A82 := Aside0.mk A820
                       clear A820
                       by_cases c83 : t133 = true
                       ·subst c83
                        have H1 : (antiphonlaw26_LedgerEpochs.l0 kj40 l0 t112 x5_1 (wrap64 (x6_1 + 1)) (wrap64 (x7_1 + 1)) t102 t103 t104 t105 t106 t107) = some r := by rw [if_pos rfl] at H; exact H
                        clear H
                        have H := H1
                        clear H1
                        have H' := Aside0.mk H
                        clear H
                        try go_wp2
                        have n0_ := Aside0.mk (Kd.N_drew HO_4.out)
                        have n1_ := Aside0.mk (blk_drew BK108.out)
                        have n2_ := Aside0.mk (blk_drew BK118.out)
                        have n3_ := Aside0.mk (below_drew1 HB.out)
                        clear HO_4
                        clear BK108
                        clear BK118
                        clear HB
                        have HO_4 := n0_
                        have BK108 := n1_
                        have BK118 := n2_
                        have HB := n3_
                        clear n0_ n1_ n2_ n3_
                        obtain ⟨Ao85, co85, eo85⟩ := Kd.N_slice HO_4.out
                        (first | subst eo85 | (injection eo85 with f1_ f2_ f3_; have f4_ := f1_.symm; have f5_ := f3_.symm; clear f1_ f2_ f3_; subst f4_; subst f5_))
                        have p128 : 0 ≤ (x5_1 : Int) := of_decide_eq_true (by first | (with_reducible assumption) | assumption)
                        have q128 : x5_1 < (t112.length : Int) := of_decide_eq_true (by first | (with_reducible assumption) | assumption)
                        obtain ⟨ad128, A128_1, c128_1, e128, hx128_0, hx128_1, hl128_1, hi128_1⟩ := at_T47 (Kd.N_reads' HO_4.out).2.2 x5_1 p128 q128
                        cases e128
                        obtain ⟨ce128, hce128, hMe128, hcc128⟩ := Kd.N_get HO_4.out z47 x5_1 p128 (by first | exact q128 | exact of_decide_eq_true (by first | (with_reducible assumption) | assumption) | (have e_ := (Kd.N_reads' HO_4.out).1; omega))
                        obtain ⟨ua128_1, uc128_1, rfl, ul128_1, ge128_1⟩ := k47_openF hMe128
                        have hv128_1 := hcc128 1 _ rfl
                        rw [add_field _ _ 1 (by omega)] at hv128_1
                        replace hv128_1 := Option.some.inj (hv128_1.symm.trans hx128_1)
                        injection hv128_1 with hva_ hvn_ hvc_
                        rw [hva_] at ge128_1
                        rw [hvc_] at ul128_1
                        have HL128_1 := Aside0.mk (show Kd.V (Kd.slice 5 (Kd.int .u8)) 42 _ w.heap.size _ _ ((rd_T47 t112 x5_1).f1) from Kd.V_mk ul128_1 ge128_1)
                        clear hva_ hvn_ hvc_ ge128_1 ul128_1
                        clear hcc128 hce128
                        have HR128_1 := Aside0.mk hi128_1
                        have HC128_1 := Aside0.mk hl128_1
                        clear hi128_1 hl128_1
                        replace p128 := eq_true p128
                        replace q128 := eq_true q128
                        have p129 : 0 ≤ (x7_1 : Int) := of_decide_eq_true (by first | (with_reducible assumption) | assumption)
                        have q129 : x7_1 < (l0.length : Int) := of_decide_eq_true (by first | (with_reducible assumption) | assumption)
                        obtain ⟨ad129, A129_11, c129_11, e129, hx129_0, hx129_1, hx129_2, hx129_3, hx129_4, hx129_5, hx129_6, hx129_7, hx129_8, hx129_9, hx129_10, hx129_11, hx129_12, hl129_11, hi129_11⟩ := at_T46 HR0.out x7_1 p129 q129
                        have hw129_12 := hx129_12
                        have hw129_11 := hx129_11
                        have hw129_10 := hx129_10
                        have hw129_9 := hx129_9
                        have hw129_8 := hx129_8
                        have hw129_7 := hx129_7
                        have hw129_6 := hx129_6
                        have hw129_5 := hx129_5
                        have hw129_4 := hx129_4
                        have hw129_3 := hx129_3
                        have hw129_2 := hx129_2
                        have hw129_1 := hx129_1
                        have hw129_0 := hx129_0
                        obtain rfl : ad117 = ad129 := (by injection e129)
                        replace hx129_0 := (HB.out.cell (World.block_lt_of_cell? w _ hx129_0)).trans hx129_0
                        replace hx129_1 := (HB.out.cell (World.block_lt_of_cell? w _ hx129_1)).trans hx129_1
                        replace hx129_2 := (HB.out.cell (World.block_lt_of_cell? w _ hx129_2)).trans hx129_2
                        replace hx129_3 := (HB.out.cell (World.block_lt_of_cell? w _ hx129_3)).trans hx129_3
                        replace hx129_4 := (HB.out.cell (World.block_lt_of_cell? w _ hx129_4)).trans hx129_4
                        replace hx129_5 := (HB.out.cell (World.block_lt_of_cell? w _ hx129_5)).trans hx129_5
                        replace hx129_6 := (HB.out.cell (World.block_lt_of_cell? w _ hx129_6)).trans hx129_6
                        replace hx129_7 := (HB.out.cell (World.block_lt_of_cell? w _ hx129_7)).trans hx129_7
                        replace hx129_8 := (HB.out.cell (World.block_lt_of_cell? w _ hx129_8)).trans hx129_8
                        replace hx129_9 := (HB.out.cell (World.block_lt_of_cell? w _ hx129_9)).trans hx129_9
                        replace hx129_10 := (HB.out.cell (World.block_lt_of_cell? w _ hx129_10)).trans hx129_10
                        replace hx129_11 := (HB.out.cell (World.block_lt_of_cell? w _ hx129_11)).trans hx129_11
                        replace hx129_12 := (HB.out.cell (World.block_lt_of_cell? w _ hx129_12)).trans hx129_12
                        have HR129_11 := Aside0.mk hi129_11
                        have HC129_11 := Aside0.mk hl129_11
                        clear hi129_11 hl129_11
                        replace p129 := eq_true p129
                        replace q129 := eq_true q129
                        have p130 : 0 ≤ (x5_1 : Int) := of_decide_eq_true (by first | (with_reducible assumption) | assumption)
                        have q130 : x5_1 < (t112.length : Int) := of_decide_eq_true (by first | (with_reducible assumption) | assumption)
                        obtain ⟨ad130, A130_1, c130_1, e130, hx130_0, hx130_1, hl130_1, hi130_1⟩ := at_T47 (Kd.N_reads' HO_4.out).2.2 x5_1 p130 q130
                        obtain rfl : ad128 = ad130 := (by injection e130)
                        obtain ⟨ce130, hce130, hMe130, hcc130⟩ := Kd.N_get HO_4.out z47 x5_1 p130 (by first | exact q130 | exact of_decide_eq_true (by first | (with_reducible assumption) | assumption) | (have e_ := (Kd.N_reads' HO_4.out).1; omega))
                        obtain ⟨ua130_1, uc130_1, rfl, ul130_1, ge130_1⟩ := k47_openF hMe130
                        have hv130_1 := hcc130 1 _ rfl
                        rw [add_field _ _ 1 (by omega)] at hv130_1
                        replace hv130_1 := Option.some.inj (hv130_1.symm.trans hx130_1)
                        injection hv130_1 with hva_ hvn_ hvc_
                        rw [hva_] at ge130_1
                        rw [hvc_] at ul130_1
                        have HL130_1 := Aside0.mk (show Kd.V (Kd.slice 5 (Kd.int .u8)) 42 _ w.heap.size _ _ ((rd_T47 t112 x5_1).f1) from Kd.V_mk ul130_1 ge130_1)
                        clear hva_ hvn_ hvc_ ge130_1 ul130_1
                        clear hcc130 hce130
                        have HR130_1 := Aside0.mk hi130_1
                        have HC130_1 := Aside0.mk hl130_1
                        clear hi130_1 hl130_1
                        replace p130 := eq_true p130
                        replace q130 := eq_true q130
                        have ea_ := Option.some.inj (hx128_1.symm.trans hx130_1)
                        injection ea_ with ea_ en_ ec_
                        subst ea_
                        subst ec_
                        clear en_
                        have p131 : 0 ≤ (x5_1 : Int) := of_decide_eq_true (by first | (with_reducible assumption) | assumption)
                        have q131 : x5_1 < (t112.length : Int) := of_decide_eq_true (by first | (with_reducible assumption) | assumption)
                        obtain ⟨ad131, A131_1, c131_1, e131, hx131_0, hx131_1, hl131_1, hi131_1⟩ := at_T47 (Kd.N_reads' HO_4.out).2.2 x5_1 p131 q131
                        obtain rfl : ad128 = ad131 := (by injection e131)
                        obtain ⟨ce131, hce131, hMe131, hcc131⟩ := Kd.N_get HO_4.out z47 x5_1 p131 (by first | exact q131 | exact of_decide_eq_true (by first | (with_reducible assumption) | assumption) | (have e_ := (Kd.N_reads' HO_4.out).1; omega))
                        obtain ⟨ua131_1, uc131_1, rfl, ul131_1, ge131_1⟩ := k47_openF hMe131
                        have hv131_1 := hcc131 1 _ rfl
                        rw [add_field _ _ 1 (by omega)] at hv131_1
                        replace hv131_1 := Option.some.inj (hv131_1.symm.trans hx131_1)
                        injection hv131_1 with hva_ hvn_ hvc_
                        rw [hva_] at ge131_1
                        rw [hvc_] at ul131_1
                        have HL131_1 := Aside0.mk (show Kd.V (Kd.slice 5 (Kd.int .u8)) 42 _ w.heap.size _ _ ((rd_T47 t112 x5_1).f1) from Kd.V_mk ul131_1 ge131_1)
                        clear hva_ hvn_ hvc_ ge131_1 ul131_1
                        clear hcc131 hce131
                        have HR131_1 := Aside0.mk hi131_1
                        have HC131_1 := Aside0.mk hl131_1
                        clear hi131_1 hl131_1
                        replace p131 := eq_true p131
                        replace q131 := eq_true q131
                        have ea_ := Option.some.inj (hx128_1.symm.trans hx131_1)
                        injection ea_ with ea_ en_ ec_
                        subst ea_
                        subst ec_
                        clear en_
                        have p132 : 0 ≤ (x6_1 : Int) := of_decide_eq_true (by first | (with_reducible assumption) | assumption)
                        have q132 : x6_1 < (((rd_T47 t112 x5_1).f1).length : Int) := of_decide_eq_true (by first | (with_reducible assumption) | assumption)
                        obtain ⟨ad132, A132_0, c132_0, e132, hx132_0, hl132_0, hi132_0⟩ := at_L1 (by repeat (first | (with_reducible exact HR131_1.out) | (with_reducible refine Kd.C_alloc ?_ _) | (with_reducible refine Kd.C_drewN ?_ _) | (with_reducible refine Kd.C_drew ?_) | exact HR131_1.out)) x6_1 p132 q132
                        cases e132
                        obtain ⟨ce132, hce132, hMe132, hcc132⟩ := Kd.V_get HL131_1.out [] x6_1 p132 (by first | exact q132 | exact of_decide_eq_true (by first | (with_reducible assumption) | assumption) | (have e_ := (Kd.V_reads' HL131_1.out).1; omega))
                        obtain ⟨ua132_0, uc132_0, rfl, ul132_0, ge132_0⟩ := Kd.FK_slice_open hMe132
                        have hv132_0 := hcc132 0 _ rfl
                        rw [Nat.add_zero, show ((Kd.slice 5 (Kd.int .u8))).sz = 1 from rfl, Nat.mul_one] at hv132_0
                        replace hv132_0 := Option.some.inj (hv132_0.symm.trans hx132_0)
                        injection hv132_0 with hva_ hvn_ hvc_
                        rw [hva_] at ge132_0
                        rw [hvc_] at ul132_0
                        have HL132_0 := Aside0.mk (show Kd.V (Kd.int .u8) 5 _ w.heap.size _ _ (rd_L1 ((rd_T47 t112 x5_1).f1) x6_1) from Kd.V_mk ul132_0 ge132_0)
                        clear hva_ hvn_ hvc_ ge132_0 ul132_0
                        clear hcc132 hce132
                        have HR132_0 := Aside0.mk hi132_0
                        have HC132_0 := Aside0.mk hl132_0
                        clear hi132_0 hl132_0
                        replace p132 := eq_true p132
                        replace q132 := eq_true q132
                        refine start_ (n := 41) (S := fun w' => w'.cell? ⟨gb118, 0, none⟩ = some (.int .i64 ((rd_T46 l0 x7_1).f2.f0)) ∧ w'.cell? ⟨gb118, 1, none⟩ = some (.int .i64 ((rd_T46 l0 x7_1).f2.f1)) ∧ w'.cell? ⟨gb118, 2, none⟩ = some (.int .i64 ((rd_T46 l0 x7_1).f2.f2)) ∧ w'.cell? ⟨gb118, 3, none⟩ = some (.int .u8 ((rd_T46 l0 x7_1).f2.f3.f0)) ∧ w'.cell? ⟨gb118, 4, none⟩ = some (.int .u8 ((rd_T46 l0 x7_1).f2.f3.f1)) ∧ w'.cell? ⟨gb118, 5, none⟩ = some (.int .u8 ((rd_T46 l0 x7_1).f2.f3.f2)) ∧ w'.cell? ⟨gb118, 6, none⟩ = some (.int .u8 ((rd_T46 l0 x7_1).f2.f3.f3)) ∧ w'.cell? ⟨gb118, 7, none⟩ = some (.int .u8 ((rd_T46 l0 x7_1).f2.f3.f4)) ∧ w'.cell? ⟨gb118, 8, none⟩ = some (.int .u8 ((rd_T46 l0 x7_1).f2.f3.f5)) ∧ w'.cell? ⟨gb118, 9, none⟩ = some (.slice A117_11 ((rd_T46 l0 x7_1).f2.f4).length c117_11) ∧ w'.cell? ⟨gb118, 10, none⟩ = some (.int .i64 ((rd_T46 l0 x7_1).f2.f5)) ∧ w'.cell? (ad128.add ((x5_1).toNat * 2)) = some (.int .i64 ((rd_T47 t112 x5_1).f0)) ∧ w'.cell? ⟨(ad128.add ((x5_1).toNat * 2)).block, (ad128.add ((x5_1).toNat * 2)).off + 1, none⟩ = some (.slice (some ad132) ((rd_T47 t112 x5_1).f1).length c128_1) ∧ w'.cell? (ad117.add ((x7_1).toNat * 13)) = some (.int .i64 ((rd_T46 l0 x7_1).f0)) ∧ w'.cell? ⟨(ad117.add ((x7_1).toNat * 13)).block, (ad117.add ((x7_1).toNat * 13)).off + 1, none⟩ = some (.int .i64 ((rd_T46 l0 x7_1).f1)) ∧ w'.cell? ⟨(ad117.add ((x7_1).toNat * 13)).block, (ad117.add ((x7_1).toNat * 13)).off + 2, none⟩ = some (.int .i64 ((rd_T46 l0 x7_1).f2.f0)) ∧ w'.cell? ⟨(ad117.add ((x7_1).toNat * 13)).block, (ad117.add ((x7_1).toNat * 13)).off + 3, none⟩ = some (.int .i64 ((rd_T46 l0 x7_1).f2.f1)) ∧ w'.cell? ⟨(ad117.add ((x7_1).toNat * 13)).block, (ad117.add ((x7_1).toNat * 13)).off + 4, none⟩ = some (.int .i64 ((rd_T46 l0 x7_1).f2.f2)) ∧ w'.cell? ⟨(ad117.add ((x7_1).toNat * 13)).block, (ad117.add ((x7_1).toNat * 13)).off + 5, none⟩ = some (.int .u8 ((rd_T46 l0 x7_1).f2.f3.f0)) ∧ w'.cell? ⟨(ad117.add ((x7_1).toNat * 13)).block, (ad117.add ((x7_1).toNat * 13)).off + 6, none⟩ = some (.int .u8 ((rd_T46 l0 x7_1).f2.f3.f1)) ∧ w'.cell? ⟨(ad117.add ((x7_1).toNat * 13)).block, (ad117.add ((x7_1).toNat * 13)).off + 7, none⟩ = some (.int .u8 ((rd_T46 l0 x7_1).f2.f3.f2)) ∧ w'.cell? ⟨(ad117.add ((x7_1).toNat * 13)).block, (ad117.add ((x7_1).toNat * 13)).off + 8, none⟩ = some (.int .u8 ((rd_T46 l0 x7_1).f2.f3.f3)) ∧ w'.cell? ⟨(ad117.add ((x7_1).toNat * 13)).block, (ad117.add ((x7_1).toNat * 13)).off + 9, none⟩ = some (.int .u8 ((rd_T46 l0 x7_1).f2.f3.f4)) ∧ w'.cell? ⟨(ad117.add ((x7_1).toNat * 13)).block, (ad117.add ((x7_1).toNat * 13)).off + 10, none⟩ = some (.int .u8 ((rd_T46 l0 x7_1).f2.f3.f5)) ∧ w'.cell? ⟨(ad117.add ((x7_1).toNat * 13)).block, (ad117.add ((x7_1).toNat * 13)).off + 11, none⟩ = some (.slice A129_11 ((rd_T46 l0 x7_1).f2.f4).length c129_11) ∧ w'.cell? ⟨(ad117.add ((x7_1).toNat * 13)).block, (ad117.add ((x7_1).toNat * 13)).off + 12, none⟩ = some (.int .i64 ((rd_T46 l0 x7_1).f2.f5)) ∧ w'.cell? (ad128.add ((x5_1).toNat * 2)) = some (.int .i64 ((rd_T47 t112 x5_1).f0)) ∧ w'.cell? ⟨(ad128.add ((x5_1).toNat * 2)).block, (ad128.add ((x5_1).toNat * 2)).off + 1, none⟩ = some (.slice (some ad132) ((rd_T47 t112 x5_1).f1).length c128_1) ∧ w'.cell? (ad128.add ((x5_1).toNat * 2)) = some (.int .i64 ((rd_T47 t112 x5_1).f0)) ∧ w'.cell? ⟨(ad128.add ((x5_1).toNat * 2)).block, (ad128.add ((x5_1).toNat * 2)).off + 1, none⟩ = some (.slice (some ad132) ((rd_T47 t112 x5_1).f1).length c128_1) ∧ w'.cell? (ad132.add (x6_1).toNat) = some (.slice A132_0 (rd_L1 ((rd_T47 t112 x5_1).f1) x6_1).length c132_0)) (ds := []) #[false, false, false, false, false, false, false, false, false, false, false, false, false, false, false, false, false, false, false, false, false, false, false, false, false, false, false, false, false, false, false, false, false, false, false, false, false, false, false, false, false] (by kernel_rfl) rfl rfl ⟨(blk_cell BK118.out 0).trans rfl, (blk_cell BK118.out 1).trans rfl, (blk_cell BK118.out 2).trans rfl, (blk_cell BK118.out 3).trans rfl, (blk_cell BK118.out 4).trans rfl, (blk_cell BK118.out 5).trans rfl, (blk_cell BK118.out 6).trans rfl, (blk_cell BK118.out 7).trans rfl, (blk_cell BK118.out 8).trans rfl, (blk_cell BK118.out 9).trans rfl, (blk_cell BK118.out 10).trans rfl, hx128_0, hx128_1, ((HB.out.cell (World.block_lt_of_cell? w _ hw129_0)).trans hw129_0), ((HB.out.cell (World.block_lt_of_cell? w _ hw129_1)).trans hw129_1), ((HB.out.cell (World.block_lt_of_cell? w _ hw129_2)).trans hw129_2), ((HB.out.cell (World.block_lt_of_cell? w _ hw129_3)).trans hw129_3), ((HB.out.cell (World.block_lt_of_cell? w _ hw129_4)).trans hw129_4), ((HB.out.cell (World.block_lt_of_cell? w _ hw129_5)).trans hw129_5), ((HB.out.cell (World.block_lt_of_cell? w _ hw129_6)).trans hw129_6), ((HB.out.cell (World.block_lt_of_cell? w _ hw129_7)).trans hw129_7), ((HB.out.cell (World.block_lt_of_cell? w _ hw129_8)).trans hw129_8), ((HB.out.cell (World.block_lt_of_cell? w _ hw129_9)).trans hw129_9), ((HB.out.cell (World.block_lt_of_cell? w _ hw129_10)).trans hw129_10), ((HB.out.cell (World.block_lt_of_cell? w _ hw129_11)).trans hw129_11), ((HB.out.cell (World.block_lt_of_cell? w _ hw129_12)).trans hw129_12), hx130_0, hx130_1, hx131_0, hx131_1, hx132_0⟩ (fun hHeld => ?_); refine with_tabW antiphonlaw26_LedgerEpochs.tab20 antiphonlaw26_LedgerEpochs.bits20 (fun HT_ HW_ => ?_)
                        generalize wc.drew = w84 at HO_4 BK108 BK118 HB HL128_1 HL130_1 HL131_1 HL132_0 HR128_1 HR129_11 HR130_1 HR131_1 HR132_0 hx128_0 hx128_1 hx129_0 hx129_1 hx129_10 hx129_11 hx129_12 hx129_2 hx129_3 hx129_4 hx129_5 hx129_6 hx129_7 hx129_8 hx129_9 hx130_0 hx130_1 hx131_0 hx131_1 hx132_0 hHeld ⊢
                        refine pure_ (i := 0) (N := some 87) (v := ?_) (a' := ?_) #[true, false, false, false, false, false, false, false, false, false, false, false, false, false, false, false, false, false, false, false, false, false, false, false, false, false, false, false, false, false, false, false, false, false, false, false, false, false, false, false, false] rfl rfl (any_of HT_.out (by kernel_rfl)) (fun _ _ _ h => h) (Or.inl ⟨by rfl, ?_⟩) ?_ ?_
                        rotate_left
                        ·intro w'
                         go_simp
                         with_reducible rfl
                        rotate_left
                        ·simp only [Act.put, List.setIfInBounds_toArray, List.set_cons_zero, List.set_cons_succ, i64_w, i32_w]
                         rfl
                        refine pure_ (i := 1) (N := some 88) (v := ?_) (a' := ?_) #[true, true, false, false, false, false, false, false, false, false, false, false, false, false, false, false, false, false, false, false, false, false, false, false, false, false, false, false, false, false, false, false, false, false, false, false, false, false, false, false, false] rfl rfl (any_of HT_.out (by kernel_rfl)) (fun _ _ _ h => h) (Or.inl ⟨by rfl, ?_⟩) ?_ ?_
                        rotate_left
                        ·intro w'
                         go_simp
                         with_reducible rfl
                        rotate_left
                        ·simp only [Act.put, List.setIfInBounds_toArray, List.set_cons_zero, List.set_cons_succ, i64_w, i32_w]
                         rfl
                        refine pure_ (i := 2) (N := some 89) (v := ?_) (a' := ?_) #[true, true, true, false, false, false, false, false, false, false, false, false, false, false, false, false, false, false, false, false, false, false, false, false, false, false, false, false, false, false, false, false, false, false, false, false, false, false, false, false, false] rfl rfl (any_of HT_.out (by kernel_rfl)) (fun _ _ _ h => h) (Or.inl ⟨by rfl, ?_⟩) ?_ ?_
                        rotate_left
                        ·intro w'
                         go_simp
                         with_reducible rfl
                        rotate_left
                        ·simp only [Act.put, List.setIfInBounds_toArray, List.set_cons_zero, List.set_cons_succ, i64_w, i32_w]
                         rfl
                        refine pure_ (i := 3) (N := some 90) (v := ?_) (a' := ?_) #[true, true, true, true, false, false, false, false, false, false, false, false, false, false, false, false, false, false, false, false, false, false, false, false, false, false, false, false, false, false, false, false, false, false, false, false, false, false, false, false, false] rfl rfl (any_of HT_.out (by kernel_rfl)) (fun _ _ _ h => h) (Or.inl ⟨by rfl, ?_⟩) ?_ ?_
                        rotate_left
                        ·intro w'
                         go_simp
                         with_reducible rfl
                        rotate_left
                        ·simp only [Act.put, List.setIfInBounds_toArray, List.set_cons_zero, List.set_cons_succ, i64_w, i32_w]
                         rfl
                        refine pure_ (i := 4) (N := some 91) (v := ?_) (a' := ?_) #[true, true, true, true, true, false, false, false, false, false, false, false, false, false, false, false, false, false, false, false, false, false, false, false, false, false, false, false, false, false, false, false, false, false, false, false, false, false, false, false, false] rfl rfl (any_of HT_.out (by kernel_rfl)) (fun _ _ _ h => h) (Or.inl ⟨by rfl, ?_⟩) ?_ ?_
                        rotate_left
                        ·intro w'
                         go_simp
                         with_reducible rfl
                        rotate_left
                        ·simp only [Act.put, List.setIfInBounds_toArray, List.set_cons_zero, List.set_cons_succ, i64_w, i32_w]
                         rfl
                        refine pure_ (i := 5) (N := some 92) (v := ?_) (a' := ?_) #[true, true, true, true, true, true, false, false, false, false, false, false, false, false, false, false, false, false, false, false, false, false, false, false, false, false, false, false, false, false, false, false, false, false, false, false, false, false, false, false, false] rfl rfl (any_of HT_.out (by kernel_rfl)) (fun _ _ _ h => h) (Or.inl ⟨by rfl, ?_⟩) ?_ ?_
                        rotate_left
                        ·intro w'
                         go_simp
                         with_reducible rfl
                        rotate_left
                        ·simp only [Act.put, List.setIfInBounds_toArray, List.set_cons_zero, List.set_cons_succ, i64_w, i32_w]
                         rfl
                        refine pure_ (i := 6) (N := some 93) (v := ?_) (a' := ?_) #[true, true, true, true, true, true, true, false, false, false, false, false, false, false, false, false, false, false, false, false, false, false, false, false, false, false, false, false, false, false, false, false, false, false, false, false, false, false, false, false, false] rfl rfl (any_of HT_.out (by kernel_rfl)) (fun _ _ _ h => h) (Or.inl ⟨by rfl, ?_⟩) ?_ ?_
                        rotate_left
                        ·intro w'
                         go_simp
                         with_reducible rfl
                        rotate_left
                        ·simp only [Act.put, List.setIfInBounds_toArray, List.set_cons_zero, List.set_cons_succ, i64_w, i32_w]
                         rfl
                        refine pure_ (i := 7) (N := some 94) (v := ?_) (a' := ?_) #[true, true, true, true, true, true, true, true, false, false, false, false, false, false, false, false, false, false, false, false, false, false, false, false, false, false, false, false, false, false, false, false, false, false, false, false, false, false, false, false, false] rfl rfl (any_of HT_.out (by kernel_rfl)) (fun _ _ _ h => h) (Or.inl ⟨by rfl, ?_⟩) ?_ ?_
                        rotate_left
                        ·intro w'
                         go_simp
                         with_reducible rfl
                        rotate_left
                        ·simp only [Act.put, List.setIfInBounds_toArray, List.set_cons_zero, List.set_cons_succ, i64_w, i32_w]
                         rfl
                        refine pure_ (i := 8) (N := some 95) (v := ?_) (a' := ?_) #[true, true, true, true, true, true, true, true, true, false, false, false, false, false, false, false, false, false, false, false, false, false, false, false, false, false, false, false, false, false, false, false, false, false, false, false, false, false, false, false, false] rfl rfl (any_of HT_.out (by kernel_rfl)) (fun _ _ _ h => h) (Or.inl ⟨by rfl, ?_⟩) ?_ ?_
                        rotate_left
                        ·intro w'
                         go_simp
                         with_reducible rfl
                        rotate_left
                        ·simp only [Act.put, List.setIfInBounds_toArray, List.set_cons_zero, List.set_cons_succ, i64_w, i32_w]
                         rfl
                        refine pure_ (i := 10) (N := some 97) (v := ?_) (a' := ?_) #[true, true, true, true, true, true, true, true, true, false, true, false, false, false, false, false, false, false, false, false, false, false, false, false, false, false, false, false, false, false, false, false, false, false, false, false, false, false, false, false, false] rfl rfl (any_of HT_.out (by kernel_rfl)) (fun _ _ _ h => h) (Or.inl ⟨by rfl, ?_⟩) ?_ ?_
                        rotate_left
                        ·intro w'
                         go_simp
                         with_reducible rfl
                        rotate_left
                        ·simp only [Act.put, List.setIfInBounds_toArray, List.set_cons_zero, List.set_cons_succ, i64_w, i32_w]
                         rfl
                        refine pure_ (i := 11) (N := some 98) (v := ?_) (a' := ?_) #[true, true, true, true, true, true, true, true, true, false, true, true, false, false, false, false, false, false, false, false, false, false, false, false, false, false, false, false, false, false, false, false, false, false, false, false, false, false, false, false, false] rfl rfl (any_of HT_.out (by kernel_rfl)) (fun _ _ _ h => h) (Or.inl ⟨by rfl, ?_⟩) ?_ ?_
                        rotate_left
                        ·intro w'
                         go_simp
                         with_reducible rfl
                        rotate_left
                        ·simp only [Act.put, List.setIfInBounds_toArray, List.set_cons_zero, List.set_cons_succ, i64_w, i32_w]
                         rfl
                        refine pure_ (i := 12) (N := some 99) (v := ?_) (a' := ?_) #[true, true, true, true, true, true, true, true, true, false, true, true, true, false, false, false, false, false, false, false, false, false, false, false, false, false, false, false, false, false, false, false, false, false, false, false, false, false, false, false, false] rfl rfl (any_of HT_.out (by kernel_rfl)) (fun _ _ _ h => h) (Or.inl ⟨by rfl, ?_⟩) ?_ ?_
                        rotate_left
                        ·intro w'
                         go_simp
                         with_reducible rfl
                        rotate_left
                        ·simp only [Act.put, List.setIfInBounds_toArray, List.set_cons_zero, List.set_cons_succ, i64_w, i32_w]
                         rfl
                        refine pure_ (i := 13) (N := some 100) (v := ?_) (a' := ?_) #[true, true, true, true, true, true, true, true, true, false, true, true, true, true, false, false, false, false, false, false, false, false, false, false, false, false, false, false, false, false, false, false, false, false, false, false, false, false, false, false, false] rfl rfl (any_of HT_.out (by kernel_rfl)) (fun _ _ _ h => h) (Or.inl ⟨by rfl, ?_⟩) ?_ ?_
                        rotate_left
                        ·intro w'
                         go_simp
                         with_reducible rfl
                        rotate_left
                        ·simp only [Act.put, List.setIfInBounds_toArray, List.set_cons_zero, List.set_cons_succ, i64_w, i32_w]
                         rfl
                        refine take_ (i := 9) (N := some 96) (v := ?_) (a' := ?_) #[true, true, true, true, true, true, true, true, true, true, true, true, true, true, false, false, false, false, false, false, false, false, false, false, false, false, false, false, false, false, false, false, false, false, false, false, false, false, false, false, false] rfl rfl (take_ofW HT_.out HW_.out (by kernel_rfl)) (fun _ _ _ h => h) (Or.inl ⟨by rfl, ?_⟩) hHeld ?_ ?_
                        rotate_left
                        ·rintro w' ⟨s0, s1, s2, s3, s4, s5, s6, s7, s8, s9, s10, s11, s12, s13, s14, s15, s16, s17, s18, s19, s20, s21, s22, s23, s24, s25, s26, s27, s28, s29, s30⟩
                         go_simp
                         with_reducible rfl
                        rotate_left
                        ·simp only [Act.put, List.setIfInBounds_toArray, List.set_cons_zero, List.set_cons_succ, i64_w, i32_w]
                         rfl
                        refine take_ (i := 14) (N := some 101) (v := ?_) (a' := ?_) #[true, true, true, true, true, true, true, true, true, true, true, true, true, true, true, false, false, false, false, false, false, false, false, false, false, false, false, false, false, false, false, false, false, false, false, false, false, false, false, false, false] rfl rfl (take_ofW HT_.out HW_.out (by kernel_rfl)) (fun _ _ _ h => h) (Or.inl ⟨by rfl, ?_⟩) hHeld ?_ ?_
                        rotate_left
                        ·rintro w' ⟨s0, s1, s2, s3, s4, s5, s6, s7, s8, s9, s10, s11, s12, s13, s14, s15, s16, s17, s18, s19, s20, s21, s22, s23, s24, s25, s26, s27, s28, s29, s30⟩
                         go_simp
                         with_reducible rfl
                        rotate_left
                        ·simp only [Act.put, List.setIfInBounds_toArray, List.set_cons_zero, List.set_cons_succ, i64_w, i32_w]
                         rfl
                        refine pure_ (i := 15) (N := some 102) (v := ?_) (a' := ?_) #[true, true, true, true, true, true, true, true, true, true, true, true, true, true, true, true, false, false, false, false, false, false, false, false, false, false, false, false, false, false, false, false, false, false, false, false, false, false, false, false, false] rfl rfl (any_of HT_.out (by kernel_rfl)) (fun _ _ _ h => h) (Or.inl ⟨by rfl, ?_⟩) ?_ ?_
                        rotate_left
                        ·intro w'
                         go_simp
                         with_reducible rfl
                        rotate_left
                        ·simp only [Act.put, List.setIfInBounds_toArray, List.set_cons_zero, List.set_cons_succ, i64_w, i32_w]
                         rfl
                        refine pure_ (i := 16) (N := some 103) (v := ?_) (a' := ?_) #[true, true, true, true, true, true, true, true, true, true, true, true, true, true, true, true, true, false, false, false, false, false, false, false, false, false, false, false, false, false, false, false, false, false, false, false, false, false, false, false, false] rfl rfl (any_of HT_.out (by kernel_rfl)) (fun _ _ _ h => h) (Or.inl ⟨by rfl, ?_⟩) ?_ ?_
                        rotate_left
                        ·intro w'
                         go_simp
                         with_reducible rfl
                        rotate_left
                        ·simp only [Act.put, List.setIfInBounds_toArray, List.set_cons_zero, List.set_cons_succ, i64_w, i32_w]
                         rfl
                        refine pure_ (i := 17) (N := some 104) (v := ?_) (a' := ?_) #[true, true, true, true, true, true, true, true, true, true, true, true, true, true, true, true, true, true, false, false, false, false, false, false, false, false, false, false, false, false, false, false, false, false, false, false, false, false, false, false, false] rfl rfl (any_of HT_.out (by kernel_rfl)) (fun _ _ _ h => h) (Or.inl ⟨by rfl, ?_⟩) ?_ ?_
                        rotate_left
                        ·intro w'
                         go_simp
                         with_reducible rfl
                        rotate_left
                        ·simp only [Act.put, List.setIfInBounds_toArray, List.set_cons_zero, List.set_cons_succ, i64_w, i32_w]
                         rfl
                        refine pure_ (i := 18) (N := some 105) (v := ?_) (a' := ?_) #[true, true, true, true, true, true, true, true, true, true, true, true, true, true, true, true, true, true, true, false, false, false, false, false, false, false, false, false, false, false, false, false, false, false, false, false, false, false, false, false, false] rfl rfl (any_of HT_.out (by kernel_rfl)) (fun _ _ _ h => h) (Or.inl ⟨by rfl, ?_⟩) ?_ ?_
                        rotate_left
                        ·intro w'
                         go_simp
                         with_reducible rfl
                        rotate_left
                        ·simp only [Act.put, List.setIfInBounds_toArray, List.set_cons_zero, List.set_cons_succ, i64_w, i32_w]
                         rfl
                        refine pure_ (i := 19) (N := some 106) (v := ?_) (a' := ?_) #[true, true, true, true, true, true, true, true, true, true, true, true, true, true, true, true, true, true, true, true, false, false, false, false, false, false, false, false, false, false, false, false, false, false, false, false, false, false, false, false, false] rfl rfl (any_of HT_.out (by kernel_rfl)) (fun _ _ _ h => h) (Or.inl ⟨by rfl, ?_⟩) ?_ ?_
                        rotate_left
                        ·intro w'
                         go_simp
                         with_reducible rfl
                        rotate_left
                        ·simp only [Act.put, List.setIfInBounds_toArray, List.set_cons_zero, List.set_cons_succ, i64_w, i32_w]
                         rfl
                        refine pure_ (i := 20) (N := some 107) (v := ?_) (a' := ?_) #[true, true, true, true, true, true, true, true, true, true, true, true, true, true, true, true, true, true, true, true, true, false, false, false, false, false, false, false, false, false, false, false, false, false, false, false, false, false, false, false, false] rfl rfl (any_of HT_.out (by kernel_rfl)) (fun _ _ _ h => h) (Or.inl ⟨by rfl, ?_⟩) ?_ ?_
                        rotate_left
                        ·intro w'
                         go_simp
                         with_reducible rfl
                        rotate_left
                        ·simp only [Act.put, List.setIfInBounds_toArray, List.set_cons_zero, List.set_cons_succ, i64_w, i32_w]
                         rfl
                        refine pure_ (i := 21) (N := some 108) (v := ?_) (a' := ?_) #[true, true, true, true, true, true, true, true, true, true, true, true, true, true, true, true, true, true, true, true, true, true, false, false, false, false, false, false, false, false, false, false, false, false, false, false, false, false, false, false, false] rfl rfl (any_of HT_.out (by kernel_rfl)) (fun _ _ _ h => h) (Or.inl ⟨by rfl, ?_⟩) ?_ ?_
                        rotate_left
                        ·intro w'
                         go_simp
                         with_reducible rfl
                        rotate_left
                        ·simp only [Act.put, List.setIfInBounds_toArray, List.set_cons_zero, List.set_cons_succ, i64_w, i32_w]
                         rfl
                        refine pure_ (i := 22) (N := some 109) (v := ?_) (a' := ?_) #[true, true, true, true, true, true, true, true, true, true, true, true, true, true, true, true, true, true, true, true, true, true, true, false, false, false, false, false, false, false, false, false, false, false, false, false, false, false, false, false, false] rfl rfl (any_of HT_.out (by kernel_rfl)) (fun _ _ _ h => h) (Or.inl ⟨by rfl, ?_⟩) ?_ ?_
                        rotate_left
                        ·intro w'
                         go_simp
                         with_reducible rfl
                        rotate_left
                        ·simp only [Act.put, List.setIfInBounds_toArray, List.set_cons_zero, List.set_cons_succ, i64_w, i32_w]
                         rfl
                        refine take_ (i := 23) (N := some 110) (v := ?_) (a' := ?_) #[true, true, true, true, true, true, true, true, true, true, true, true, true, true, true, true, true, true, true, true, true, true, true, true, false, false, false, false, false, false, false, false, false, false, false, false, false, false, false, false, false] rfl rfl (take_ofW HT_.out HW_.out (by kernel_rfl)) (fun _ _ _ h => h) (Or.inl ⟨by rfl, ?_⟩) hHeld ?_ ?_
                        rotate_left
                        ·rintro w' ⟨s0, s1, s2, s3, s4, s5, s6, s7, s8, s9, s10, s11, s12, s13, s14, s15, s16, s17, s18, s19, s20, s21, s22, s23, s24, s25, s26, s27, s28, s29, s30⟩
                         go_simp
                         with_reducible rfl
                        rotate_left
                        ·simp only [Act.put, List.setIfInBounds_toArray, List.set_cons_zero, List.set_cons_succ, i64_w, i32_w]
                         rfl
                        refine pure_ (i := 24) (N := some 111) (v := ?_) (a' := ?_) #[true, true, true, true, true, true, true, true, true, true, true, true, true, true, true, true, true, true, true, true, true, true, true, true, true, false, false, false, false, false, false, false, false, false, false, false, false, false, false, false, false] rfl rfl (any_of HT_.out (by kernel_rfl)) (fun _ _ _ h => h) (Or.inl ⟨by rfl, ?_⟩) ?_ ?_
                        rotate_left
                        ·intro w'
                         go_simp
                         with_reducible rfl
                        rotate_left
                        ·simp only [Act.put, List.setIfInBounds_toArray, List.set_cons_zero, List.set_cons_succ, i64_w, i32_w]
                         rfl
                        refine pure_ (i := 25) (N := some 112) (v := ?_) (a' := ?_) #[true, true, true, true, true, true, true, true, true, true, true, true, true, true, true, true, true, true, true, true, true, true, true, true, true, true, false, false, false, false, false, false, false, false, false, false, false, false, false, false, false] rfl rfl (any_of HT_.out (by kernel_rfl)) (fun _ _ _ h => h) (Or.inl ⟨by rfl, ?_⟩) ?_ ?_
                        rotate_left
                        ·intro w'
                         go_simp
                         with_reducible rfl
                        rotate_left
                        ·simp only [Act.put, List.setIfInBounds_toArray, List.set_cons_zero, List.set_cons_succ, i64_w, i32_w]
                         rfl
                        refine pure_ (i := 26) (N := some 113) (v := ?_) (a' := ?_) #[true, true, true, true, true, true, true, true, true, true, true, true, true, true, true, true, true, true, true, true, true, true, true, true, true, true, true, false, false, false, false, false, false, false, false, false, false, false, false, false, false] rfl rfl (any_of HT_.out (by kernel_rfl)) (fun _ _ _ h => h) (Or.inl ⟨by rfl, ?_⟩) ?_ ?_
                        rotate_left
                        ·intro w'
                         go_simp
                         with_reducible rfl
                        rotate_left
                        ·simp only [Act.put, List.setIfInBounds_toArray, List.set_cons_zero, List.set_cons_succ, i64_w, i32_w]
                         rfl
                        refine pure_ (i := 27) (N := some 114) (v := ?_) (a' := ?_) #[true, true, true, true, true, true, true, true, true, true, true, true, true, true, true, true, true, true, true, true, true, true, true, true, true, true, true, true, false, false, false, false, false, false, false, false, false, false, false, false, false] rfl rfl (any_of HT_.out (by kernel_rfl)) (fun _ _ _ h => h) (Or.inl ⟨by rfl, ?_⟩) ?_ ?_
                        rotate_left
                        ·intro w'
                         go_simp
                         with_reducible rfl
                        rotate_left
                        ·simp only [Act.put, List.setIfInBounds_toArray, List.set_cons_zero, List.set_cons_succ, i64_w, i32_w]
                         rfl
                        refine pure_ (i := 28) (N := some 115) (v := ?_) (a' := ?_) #[true, true, true, true, true, true, true, true, true, true, true, true, true, true, true, true, true, true, true, true, true, true, true, true, true, true, true, true, true, false, false, false, false, false, false, false, false, false, false, false, false] rfl rfl (any_of HT_.out (by kernel_rfl)) (fun _ _ _ h => h) (Or.inl ⟨by rfl, ?_⟩) ?_ ?_
                        rotate_left
                        ·intro w'
                         go_simp
                         with_reducible rfl
                        rotate_left
                        ·simp only [Act.put, List.setIfInBounds_toArray, List.set_cons_zero, List.set_cons_succ, i64_w, i32_w]
                         rfl
                        refine pure_ (i := 29) (N := some 116) (v := ?_) (a' := ?_) #[true, true, true, true, true, true, true, true, true, true, true, true, true, true, true, true, true, true, true, true, true, true, true, true, true, true, true, true, true, true, false, false, false, false, false, false, false, false, false, false, false] rfl rfl (any_of HT_.out (by kernel_rfl)) (fun _ _ _ h => h) (Or.inl ⟨by rfl, ?_⟩) ?_ ?_
                        rotate_left
                        ·intro w'
                         go_simp
                         with_reducible rfl
                        rotate_left
                        ·simp only [Act.put, List.setIfInBounds_toArray, List.set_cons_zero, List.set_cons_succ, i64_w, i32_w]
                         rfl
                        refine pure_ (i := 30) (N := some 117) (v := ?_) (a' := ?_) #[true, true, true, true, true, true, true, true, true, true, true, true, true, true, true, true, true, true, true, true, true, true, true, true, true, true, true, true, true, true, true, false, false, false, false, false, false, false, false, false, false] rfl rfl (any_of HT_.out (by kernel_rfl)) (fun _ _ _ h => h) (Or.inl ⟨by rfl, ?_⟩) ?_ ?_
                        rotate_left
                        ·intro w'
                         go_simp
                         with_reducible rfl
                        rotate_left
                        ·simp only [Act.put, List.setIfInBounds_toArray, List.set_cons_zero, List.set_cons_succ, i64_w, i32_w]
                         rfl
                        refine pure_ (i := 31) (N := some 118) (v := ?_) (a' := ?_) #[true, true, true, true, true, true, true, true, true, true, true, true, true, true, true, true, true, true, true, true, true, true, true, true, true, true, true, true, true, true, true, true, false, false, false, false, false, false, false, false, false] rfl rfl (any_of HT_.out (by kernel_rfl)) (fun _ _ _ h => h) (Or.inl ⟨by rfl, ?_⟩) ?_ ?_
                        rotate_left
                        ·intro w'
                         go_simp
                         with_reducible rfl
                        rotate_left
                        ·simp only [Act.put, List.setIfInBounds_toArray, List.set_cons_zero, List.set_cons_succ, i64_w, i32_w]
                         rfl
                        refine pure_ (i := 33) (N := some 120) (v := ?_) (a' := ?_) #[true, true, true, true, true, true, true, true, true, true, true, true, true, true, true, true, true, true, true, true, true, true, true, true, true, true, true, true, true, true, true, true, false, true, false, false, false, false, false, false, false] rfl rfl (any_of HT_.out (by kernel_rfl)) (fun _ _ _ h => h) (Or.inl ⟨by rfl, ?_⟩) ?_ ?_
                        rotate_left
                        ·intro w'
                         go_simp
                         with_reducible rfl
                        rotate_left
                        ·simp only [Act.put, List.setIfInBounds_toArray, List.set_cons_zero, List.set_cons_succ, i64_w, i32_w]
                         rfl
                        refine pure_ (i := 36) (N := some 123) (v := ?_) (a' := ?_) #[true, true, true, true, true, true, true, true, true, true, true, true, true, true, true, true, true, true, true, true, true, true, true, true, true, true, true, true, true, true, true, true, false, true, false, false, true, false, false, false, false] rfl rfl (any_of HT_.out (by kernel_rfl)) (fun _ _ _ h => h) (Or.inl ⟨by rfl, ?_⟩) ?_ ?_
                        rotate_left
                        ·intro w'
                         go_simp
                         with_reducible rfl
                        rotate_left
                        ·simp only [Act.put, List.setIfInBounds_toArray, List.set_cons_zero, List.set_cons_succ, i64_w, i32_w]
                         rfl
                        refine take_ (i := 32) (N := some 119) (v := ?_) (a' := ?_) #[true, true, true, true, true, true, true, true, true, true, true, true, true, true, true, true, true, true, true, true, true, true, true, true, true, true, true, true, true, true, true, true, true, true, false, false, true, false, false, false, false] rfl rfl (take_ofW HT_.out HW_.out (by kernel_rfl)) (fun _ _ _ h => h) (Or.inl ⟨by rfl, ?_⟩) hHeld ?_ ?_
                        rotate_left
                        ·rintro w' ⟨s0, s1, s2, s3, s4, s5, s6, s7, s8, s9, s10, s11, s12, s13, s14, s15, s16, s17, s18, s19, s20, s21, s22, s23, s24, s25, s26, s27, s28, s29, s30⟩
                         go_simp
                         with_reducible rfl
                        rotate_left
                        ·simp only [Act.put, List.setIfInBounds_toArray, List.set_cons_zero, List.set_cons_succ, i64_w, i32_w]
                         rfl
                        refine pure_ (i := 34) (N := some 121) (v := ?_) (a' := ?_) #[true, true, true, true, true, true, true, true, true, true, true, true, true, true, true, true, true, true, true, true, true, true, true, true, true, true, true, true, true, true, true, true, true, true, true, false, true, false, false, false, false] rfl rfl (any_of HT_.out (by kernel_rfl)) (fun _ _ _ h => h) (Or.inl ⟨by rfl, ?_⟩) ?_ ?_
                        rotate_left
                        ·intro w'
                         go_simp
                         with_reducible rfl
                        rotate_left
                        ·simp only [Act.put, List.setIfInBounds_toArray, List.set_cons_zero, List.set_cons_succ, i64_w, i32_w]
                         rfl
                        refine take_ (i := 35) (N := some 122) (v := ?_) (a' := ?_) #[true, true, true, true, true, true, true, true, true, true, true, true, true, true, true, true, true, true, true, true, true, true, true, true, true, true, true, true, true, true, true, true, true, true, true, true, true, false, false, false, false] rfl rfl (take_ofW HT_.out HW_.out (by kernel_rfl)) (fun _ _ _ h => h) (Or.inl ⟨by rfl, ?_⟩) hHeld ?_ ?_
                        rotate_left
                        ·rintro w' ⟨s0, s1, s2, s3, s4, s5, s6, s7, s8, s9, s10, s11, s12, s13, s14, s15, s16, s17, s18, s19, s20, s21, s22, s23, s24, s25, s26, s27, s28, s29, s30⟩
                         go_simp
                         with_reducible rfl
                        rotate_left
                        ·simp only [Act.put, List.setIfInBounds_toArray, List.set_cons_zero, List.set_cons_succ, i64_w, i32_w]
                         rfl
                        refine take_ (i := 37) (N := some 124) (v := ?_) (a' := ?_) #[true, true, true, true, true, true, true, true, true, true, true, true, true, true, true, true, true, true, true, true, true, true, true, true, true, true, true, true, true, true, true, true, true, true, true, true, true, true, false, false, false] rfl rfl (take_ofW HT_.out HW_.out (by kernel_rfl)) (fun _ _ _ h => h) (Or.inl ⟨by rfl, ?_⟩) hHeld ?_ ?_
                        rotate_left
                        ·rintro w' ⟨s0, s1, s2, s3, s4, s5, s6, s7, s8, s9, s10, s11, s12, s13, s14, s15, s16, s17, s18, s19, s20, s21, s22, s23, s24, s25, s26, s27, s28, s29, s30⟩
                         go_simp
                         with_reducible rfl
                        rotate_left
                        ·simp only [Act.put, List.setIfInBounds_toArray, List.set_cons_zero, List.set_cons_succ, i64_w, i32_w]
                         rfl
                        refine one_ (i := 38) (N := some 125) #[true, true, true, true, true, true, true, true, true, true, true, true, true, true, true, true, true, true, true, true, true, true, true, true, true, true, true, true, true, true, true, true, true, true, true, true, true, true, true, false, false] rfl rfl (one_of HT_.out (by kernel_rfl)) (by decide) (fun K hK => ?_)
                        refine goes_ Try.func18 (by kernel_rfl) rfl #[.slice A132_0 (rd_L1 ((rd_T47 t112 x5_1).f1) x6_1).length c132_0, .slice A117_11 ((rd_T46 l0 x7_1).f2.f4).length c117_11] (by rfl) rfl rfl (by (try simp only [List.map_toArray, List.map_cons, List.map_nil]); first | done | rfl | (simp only [List.length_drop, List.length_take]; rfl)) ?_
                        with_reducible refine (antiphonref1_Same.calls kj40 _ _ (rd_L1 ((rd_T47 t112 x5_1).f1) x6_1) _ _ ((rd_T46 l0 x7_1).f2.f4) true _ ?side1 ?side2 ?side3 ?side4 A82.out).mono ?_
                        (case side1 => repeat (first | exact (by repeat (first | (with_reducible exact HR132_0.out) | (with_reducible refine Kd.C_alloc ?_ _) | (with_reducible refine Kd.C_drewN ?_ _) | (with_reducible refine Kd.C_drew ?_) | exact HR132_0.out)) | (with_reducible refine Kd.C_alloc ?_ _) | (with_reducible refine Kd.C_drewN ?_ _) | (with_reducible refine Kd.C_drew ?_)))
                        (case side2 => exact HC132_0.out)
                        (case side3 => repeat (first | exact (Kd.C_below HR117_11.out HB.out) | (with_reducible refine Kd.C_alloc ?_ _) | (with_reducible refine Kd.C_drewN ?_ _) | (with_reducible refine Kd.C_drew ?_)))
                        (case side4 => exact HC117_11.out)
                        rintro e w' ⟨rfl, ⟨nd, rfl⟩⟩
                        refine ⟨_, rfl, ?_⟩
                        refine hK.out _ _ ⟨(blk_cell BK118.out 0).trans rfl, (blk_cell BK118.out 1).trans rfl, (blk_cell BK118.out 2).trans rfl, (blk_cell BK118.out 3).trans rfl, (blk_cell BK118.out 4).trans rfl, (blk_cell BK118.out 5).trans rfl, (blk_cell BK118.out 6).trans rfl, (blk_cell BK118.out 7).trans rfl, (blk_cell BK118.out 8).trans rfl, (blk_cell BK118.out 9).trans rfl, (blk_cell BK118.out 10).trans rfl, hHeld.2.2.2.2.2.2.2.2.2.2.2.1, hHeld.2.2.2.2.2.2.2.2.2.2.2.2.1, ((HB.out.cell (World.block_lt_of_cell? w _ hw129_0)).trans hw129_0), ((HB.out.cell (World.block_lt_of_cell? w _ hw129_1)).trans hw129_1), ((HB.out.cell (World.block_lt_of_cell? w _ hw129_2)).trans hw129_2), ((HB.out.cell (World.block_lt_of_cell? w _ hw129_3)).trans hw129_3), ((HB.out.cell (World.block_lt_of_cell? w _ hw129_4)).trans hw129_4), ((HB.out.cell (World.block_lt_of_cell? w _ hw129_5)).trans hw129_5), ((HB.out.cell (World.block_lt_of_cell? w _ hw129_6)).trans hw129_6), ((HB.out.cell (World.block_lt_of_cell? w _ hw129_7)).trans hw129_7), ((HB.out.cell (World.block_lt_of_cell? w _ hw129_8)).trans hw129_8), ((HB.out.cell (World.block_lt_of_cell? w _ hw129_9)).trans hw129_9), ((HB.out.cell (World.block_lt_of_cell? w _ hw129_10)).trans hw129_10), ((HB.out.cell (World.block_lt_of_cell? w _ hw129_11)).trans hw129_11), ((HB.out.cell (World.block_lt_of_cell? w _ hw129_12)).trans hw129_12), hHeld.2.2.2.2.2.2.2.2.2.2.2.2.2.2.2.2.2.2.2.2.2.2.2.2.2.2.1, hHeld.2.2.2.2.2.2.2.2.2.2.2.2.2.2.2.2.2.2.2.2.2.2.2.2.2.2.2.1, hHeld.2.2.2.2.2.2.2.2.2.2.2.2.2.2.2.2.2.2.2.2.2.2.2.2.2.2.2.2.1, hHeld.2.2.2.2.2.2.2.2.2.2.2.2.2.2.2.2.2.2.2.2.2.2.2.2.2.2.2.2.2.1, hHeld.2.2.2.2.2.2.2.2.2.2.2.2.2.2.2.2.2.2.2.2.2.2.2.2.2.2.2.2.2.2⟩ (fun hHeld => ?_)
                        clear hK K
                        refine norm_ (a' := ?_) ?_ ?_
                        rotate_left
                        ·show Act.put _ (some 125) _ = _
                         simp only [Act.put, List.setIfInBounds_toArray, List.set_cons_zero, List.set_cons_succ, i64_w, i32_w]
                         rfl
                        refine pure_ (i := 39) (N := some 126) (v := ?_) (a' := ?_) #[true, true, true, true, true, true, true, true, true, true, true, true, true, true, true, true, true, true, true, true, true, true, true, true, true, true, true, true, true, true, true, true, true, true, true, true, true, true, true, true, false] rfl rfl (any_of HT_.out (by kernel_rfl)) (fun _ _ _ h => h) (Or.inl ⟨by rfl, ?_⟩) ?_ ?_
                        rotate_left
                        ·intro w'
                         go_simp
                         with_reducible rfl
                        rotate_left
                        ·simp only [Act.put, List.setIfInBounds_toArray, List.set_cons_zero, List.set_cons_succ, i64_w, i32_w]
                         rfl
                        refine pure_ (i := 40) (N := some 127) (v := ?_) (a' := ?_) #[true, true, true, true, true, true, true, true, true, true, true, true, true, true, true, true, true, true, true, true, true, true, true, true, true, true, true, true, true, true, true, true, true, true, true, true, true, true, true, true, true] rfl rfl (any_of HT_.out (by kernel_rfl)) (fun _ _ _ h => h) (Or.inl ⟨by rfl, ?_⟩) ?_ ?_
                        rotate_left
                        ·intro w'
                         go_simp
                         with_reducible rfl
                        rotate_left
                        ·simp only [Act.put, List.setIfInBounds_toArray, List.set_cons_zero, List.set_cons_succ, i64_w, i32_w]
                         rfl
                        refine done_ (done_of HT_.out (by kernel_rfl)) ?_
                        try go_wp2
                        go_roundg kj40
                        case measure => have := HK1.out; have := HJ23.out; have := HJ40.out; omega
                        case rel => exact ⟨(x5_1), (wrap64 (x6_1 + 1)), (wrap64 (x7_1 + 1)), (by first | rfl | (simp; done) | (simp [*]; done)), (by first | rfl | (simp; done) | (simp [*]; done)), (by first | rfl | (simp; done) | (simp [*]; done)), H', ⟨by have := HK1.out; have := HJ23.out; have := HJ40.out; omega⟩, ⟨by (with_reducible repeat (first | apply Kd.N_alloc | apply Kd.N_drewN | apply Kd.N_drew)); exact Kd.N_mono HO_4.out (fun _ hk => hk.1)⟩, ⟨by (with_reducible repeat (first | refine blk_drewN ?_ _ | refine blk_drew ?_ | refine blk_alloc ?_ _)); exact BK108.out⟩, ⟨by repeat (first | (with_reducible first | exact HB.out | apply below_alloc | apply pw_below_drewN | apply below_drew1 | refine below_set ?_ GE108.out | refine below_set ?_ GE118.out) | exact HB.out)⟩⟩
                       ·replace c83 := Bool.eq_false_iff.mpr c83
                        subst c83
                        have H1 : (none) = some r := by rw [if_neg (show ¬ (false = true) by decide)] at H; exact H
                        clear H
                        have H := H1
                        clear H1
                        exact absurd H (by simp)
                      ·rw [if_neg c81] at H
                       exact absurd H (by simp)
                     ·rw [if_neg c80] at H
                      exact absurd H (by simp)
                   ·rw [if_neg c78] at H
                    have c78b0 : (((rd_T47 t112 x5_1).f0) == ((rd_T46 l0 x7_1).f1)) = false := beq_eq_false_iff_ne.mpr c78
                    have c78b1 : (((rd_T47 t112 x5_1).f0) != ((rd_T46 l0 x7_1).f1)) = true := bne_iff_ne.mpr c78
                    exact absurd H (by simp)
                  ·rw [if_neg c77] at H
                   exact absurd H (by simp)
                 ·rw [if_neg c76] at H
                  exact absurd H (by simp)
                ·rw [if_neg c75] at H
                 exact absurd H (by simp)
               ·rw [if_neg c74] at H
                exact absurd H (by simp)
      ·rw [if_neg c19] at H
       exact absurd H (by simp)
     ·rw [if_neg c18] at H
      have c18b0 : decide (x7_1 < (l0.length : Int)) = false := decide_eq_false c18
      clear c18
      by_cases c86 : (t112.length : Int) = 0
      ·rw [if_pos c86] at H
       have c86b0 : ((t112.length : Int) == 0) = true := beq_iff_eq.mpr c86
       have c86b1 : ((t112.length : Int) != 0) = false := bne_eq_false_iff_eq.mpr c86
       clear c86
       by_cases c87 : x6_1 = 0
       ·rw [if_pos c87] at H
        have c87b0 : (x6_1 == 0) = true := beq_iff_eq.mpr c87
        have c87b1 : (x6_1 != 0) = false := bne_eq_false_iff_eq.mpr c87
        clear c87
        obtain rfl := Option.some.inj H
        obtain ⟨Ao88, co88, eo88⟩ := Kd.N_slice HO_4.out
        subst eo88
        go_wp2
        go_ret
        exact ⟨by first | rfl | (simp [errW_none, errW_some] <;> rfl) | (simp [*, errW_none, errW_some] <;> rfl), by repeat (first | (with_reducible first | exact HB.out | apply below_alloc | apply pw_below_drewN | apply below_drew1 | refine below_set ?_ GE108.out) | exact HB.out)⟩
       ·rw [if_neg c87] at H
        have c87b0 : (x6_1 == 0) = false := beq_eq_false_iff_ne.mpr c87
        have c87b1 : (x6_1 != 0) = true := bne_iff_ne.mpr c87
        by_cases c89 : x5_1 = (wrap64 ((t112.length : Int) - 1))
        ·rw [if_pos c89] at H
         have c89b0 : (x5_1 == (wrap64 ((t112.length : Int) - 1))) = true := beq_iff_eq.mpr c89
         have c89b1 : (x5_1 != (wrap64 ((t112.length : Int) - 1))) = false := bne_eq_false_iff_eq.mpr c89
         clear c89
         by_cases c90 : 0 ≤ x5_1
         ·rw [if_pos c90] at H
          have c90b0 : decide (0 ≤ x5_1) = true := decide_eq_true c90
          clear c90
          by_cases c91 : x5_1 < (t112.length : Int)
          ·rw [if_pos c91] at H
           have c91b0 : decide (x5_1 < (t112.length : Int)) = true := decide_eq_true c91
           clear c91
           obtain rfl := Option.some.inj H
           obtain ⟨Ao92, co92, eo92⟩ := Kd.N_slice HO_4.out
           subst eo92
           have p115 : 0 ≤ (x5_1 : Int) := of_decide_eq_true (by first | (with_reducible assumption) | assumption)
           have q115 : x5_1 < (t112.length : Int) := of_decide_eq_true (by first | (with_reducible assumption) | assumption)
           obtain ⟨ad115, A115_1, c115_1, e115, hx115_0, hx115_1, hl115_1, hi115_1⟩ := at_T47 (Kd.N_reads' HO_4.out).2.2 x5_1 p115 q115
           cases e115
           obtain ⟨ce115, hce115, hMe115, hcc115⟩ := Kd.N_get HO_4.out z47 x5_1 p115 (by first | exact q115 | exact of_decide_eq_true (by first | (with_reducible assumption) | assumption) | (have e_ := (Kd.N_reads' HO_4.out).1; omega))
           obtain ⟨ua115_1, uc115_1, rfl, ul115_1, ge115_1⟩ := k47_openF hMe115
           have hv115_1 := hcc115 1 _ rfl
           rw [add_field _ _ 1 (by omega)] at hv115_1
           replace hv115_1 := Option.some.inj (hv115_1.symm.trans hx115_1)
           injection hv115_1 with hva_ hvn_ hvc_
           rw [hva_] at ge115_1
           rw [hvc_] at ul115_1
           have HL115_1 := Aside0.mk (show Kd.V (Kd.slice 5 (Kd.int .u8)) 42 _ w.heap.size _ _ ((rd_T47 t112 x5_1).f1) from Kd.V_mk ul115_1 ge115_1)
           clear hva_ hvn_ hvc_ ge115_1 ul115_1
           clear hcc115 hce115
           have HR115_1 := Aside0.mk hi115_1
           have HC115_1 := Aside0.mk hl115_1
           clear hi115_1 hl115_1
           replace p115 := eq_true p115
           replace q115 := eq_true q115
           go_wp2
           go_ret
           exact ⟨by first | rfl | (simp [errW_none, errW_some] <;> rfl) | (simp [*, errW_none, errW_some] <;> rfl), by repeat (first | (with_reducible first | exact HB.out | apply below_alloc | apply pw_below_drewN | apply below_drew1 | refine below_set ?_ GE108.out) | exact HB.out)⟩
          ·rw [if_neg c91] at H
           exact absurd H (by simp)
         ·rw [if_neg c90] at H
          exact absurd H (by simp)
        ·rw [if_neg c89] at H
         exact absurd H (by simp)
      ·rw [if_neg c86] at H
       have c86b0 : ((t112.length : Int) == 0) = false := beq_eq_false_iff_ne.mpr c86
       have c86b1 : ((t112.length : Int) != 0) = true := bne_iff_ne.mpr c86
       have c86b2 : ¬ (t112 = []) := fun h_ => c86 (by rw [h_]; rfl)
       by_cases c93 : x5_1 = (wrap64 ((t112.length : Int) - 1))
       ·rw [if_pos c93] at H
        have c93b0 : (x5_1 == (wrap64 ((t112.length : Int) - 1))) = true := beq_iff_eq.mpr c93
        have c93b1 : (x5_1 != (wrap64 ((t112.length : Int) - 1))) = false := bne_eq_false_iff_eq.mpr c93
        clear c93
        by_cases c94 : 0 ≤ x5_1
        ·rw [if_pos c94] at H
         have c94b0 : decide (0 ≤ x5_1) = true := decide_eq_true c94
         clear c94
         by_cases c95 : x5_1 < (t112.length : Int)
         ·rw [if_pos c95] at H
          have c95b0 : decide (x5_1 < (t112.length : Int)) = true := decide_eq_true c95
          clear c95
          obtain rfl := Option.some.inj H
          obtain ⟨Ao96, co96, eo96⟩ := Kd.N_slice HO_4.out
          subst eo96
          have p116 : 0 ≤ (x5_1 : Int) := of_decide_eq_true (by first | (with_reducible assumption) | assumption)
          have q116 : x5_1 < (t112.length : Int) := of_decide_eq_true (by first | (with_reducible assumption) | assumption)
          obtain ⟨ad116, A116_1, c116_1, e116, hx116_0, hx116_1, hl116_1, hi116_1⟩ := at_T47 (Kd.N_reads' HO_4.out).2.2 x5_1 p116 q116
          cases e116
          obtain ⟨ce116, hce116, hMe116, hcc116⟩ := Kd.N_get HO_4.out z47 x5_1 p116 (by first | exact q116 | exact of_decide_eq_true (by first | (with_reducible assumption) | assumption) | (have e_ := (Kd.N_reads' HO_4.out).1; omega))
          obtain ⟨ua116_1, uc116_1, rfl, ul116_1, ge116_1⟩ := k47_openF hMe116
          have hv116_1 := hcc116 1 _ rfl
          rw [add_field _ _ 1 (by omega)] at hv116_1
          replace hv116_1 := Option.some.inj (hv116_1.symm.trans hx116_1)
          injection hv116_1 with hva_ hvn_ hvc_
          rw [hva_] at ge116_1
          rw [hvc_] at ul116_1
          have HL116_1 := Aside0.mk (show Kd.V (Kd.slice 5 (Kd.int .u8)) 42 _ w.heap.size _ _ ((rd_T47 t112 x5_1).f1) from Kd.V_mk ul116_1 ge116_1)
          clear hva_ hvn_ hvc_ ge116_1 ul116_1
          clear hcc116 hce116
          have HR116_1 := Aside0.mk hi116_1
          have HC116_1 := Aside0.mk hl116_1
          clear hi116_1 hl116_1
          replace p116 := eq_true p116
          replace q116 := eq_true q116
          go_wp2
          go_ret
          exact ⟨by first | rfl | (simp [errW_none, errW_some] <;> rfl) | (simp [*, errW_none, errW_some] <;> rfl), by repeat (first | (with_reducible first | exact HB.out | apply below_alloc | apply pw_below_drewN | apply below_drew1 | refine below_set ?_ GE108.out) | exact HB.out)⟩
         ·rw [if_neg c95] at H
          exact absurd H (by simp)
        ·rw [if_neg c94] at H
         exact absurd H (by simp)
       ·rw [if_neg c93] at H
        exact absurd H (by simp)
 ·replace c3 := Bool.eq_false_iff.mpr c3
  subst c3
  have H1 : (none) = some r := by rw [if_neg (show ¬ (false = true) by decide)] at H; exact H
  clear H
  have H := H1
  clear H1
  exact absurd H (by simp)

end Go.Proofs.Ythdjdhcdhaicoaa.P
