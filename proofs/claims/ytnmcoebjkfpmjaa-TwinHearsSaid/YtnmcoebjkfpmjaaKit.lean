import Derived.Test.YtnmcoebjkfpmjaaRows
import Derived.KernelRfl
namespace Go.Proofs.Ytnmcoebjkfpmjaa.Kit
def sum_ : List Char := [50, 53, 98, 53, 98, 98, 49, 57, 56, 52, 97, 100, 100, 52, 49, 100, 54, 52, 55, 55, 50, 57, 50, 48, 101, 56, 49, 56, 52, 54, 50, 99, 57, 56, 52, 49, 52, 56, 54, 99, 102, 54, 100, 101, 55, 54, 55, 100, 51, 97, 98, 48, 54, 49, 55, 49, 98, 55, 49, 98, 99, 100, 48, 51].map Char.ofNat
def tail_ : List Char := [97, 116, 32, 97, 110, 116, 105, 112, 104, 111, 110, 47, 97, 110, 116, 105, 112, 104, 111, 110, 108, 97, 119, 54, 46, 80, 100, 117, 75, 110, 111, 119, 110, 32, 97, 110, 116, 105, 112, 104, 111, 110, 47, 97, 110, 116, 105, 112, 104, 111, 110, 108, 97, 119, 54, 46, 80, 100, 117, 67, 111, 100, 101, 115, 32, 97, 110, 116, 105, 112, 104, 111, 110, 47, 97, 110, 116, 105, 112, 104, 111, 110, 108, 97, 119, 54, 46, 80, 100, 117, 65, 108, 108, 32, 97, 110, 116, 105, 112, 104, 111, 110, 47, 97, 110, 116, 105, 112, 104, 111, 110, 108, 97, 119, 54, 46, 80, 100, 117, 75, 105, 110, 100, 115, 32, 97, 110, 116, 105, 112, 104, 111, 110, 47, 97, 110, 116, 105, 112, 104, 111, 110, 108, 97, 119, 54, 46, 80, 100, 117, 67, 117, 116, 115, 32, 97, 110, 116, 105, 112, 104, 111, 110, 47, 97, 110, 116, 105, 112, 104, 111, 110, 108, 97, 119, 54, 46, 80, 100, 117, 66, 97, 99, 107, 32, 97, 110, 116, 105, 112, 104, 111, 110, 47, 97, 110, 116, 105, 112, 104, 111, 110, 108, 97, 119, 54, 46, 80, 100, 117, 83, 97, 112, 115, 32, 97, 110, 116, 105, 112, 104, 111, 110, 47, 97, 110, 116, 105, 112, 104, 111, 110, 108, 97, 119, 55, 46, 70, 105, 101, 108, 100, 75, 110, 111, 119, 110, 32, 97, 110, 116, 105, 112, 104, 111, 110, 47, 97, 110, 116, 105, 112, 104, 111, 110, 108, 97, 119, 55, 46, 70, 105, 101, 108, 100, 67, 108, 97, 115, 115, 101, 115, 32, 97, 110, 116, 105, 112, 104, 111, 110, 47, 97, 110, 116, 105, 112, 104, 111, 110, 108, 97, 119, 55, 46, 70, 105, 101, 108, 100, 66, 97, 99, 107, 32, 97, 110, 116, 105, 112, 104, 111, 110, 47, 97, 110, 116, 105, 112, 104, 111, 110, 108, 97, 119, 55, 46, 70, 105, 101, 108, 100, 82, 101, 97, 115, 111, 110, 115, 32, 97, 110, 116, 105, 112, 104, 111, 110, 47, 97, 110, 116, 105, 112, 104, 111, 110, 108, 97, 119, 56, 46, 84, 101, 108, 108, 75, 110, 111, 119, 110, 32, 97, 110, 116, 105, 112, 104, 111, 110, 47, 97, 110, 116, 105, 112, 104, 111, 110, 108, 97, 119, 56, 46, 84, 101, 108, 108, 69, 118, 101, 110, 116, 115, 32, 97, 110, 116, 105, 112, 104, 111, 110, 47, 97, 110, 116, 105, 112, 104, 111, 110, 108, 97, 119, 56, 46, 84, 101, 108, 108, 80, 97, 114, 116, 115, 32, 97, 110, 116, 105, 112, 104, 111, 110, 47, 97, 110, 116, 105, 112, 104, 111, 110, 108, 97, 119, 56, 46, 84, 101, 108, 108, 82, 105, 110, 103, 115, 32, 97, 110, 116, 105, 112, 104, 111, 110, 47, 97, 110, 116, 105, 112, 104, 111, 110, 108, 97, 119, 56, 46, 84, 101, 108, 108, 84, 121, 112, 101, 115, 32, 97, 110, 116, 105, 112, 104, 111, 110, 47, 97, 110, 116, 105, 112, 104, 111, 110, 108, 97, 119, 56, 46, 84, 101, 108, 108, 87, 105, 110, 100, 111, 119, 32, 97, 110, 116, 105, 112, 104, 111, 110, 47, 97, 110, 116, 105, 112, 104, 111, 110, 108, 97, 119, 49, 52, 46, 84, 119, 105, 110, 75, 110, 111, 119, 110, 32, 97, 110, 116, 105, 112, 104, 111, 110, 47, 97, 110, 116, 105, 112, 104, 111, 110, 108, 97, 119, 49, 52, 46, 84, 119, 105, 110, 80, 108, 97, 121, 115, 32, 97, 110, 116, 105, 112, 104, 111, 110, 47, 97, 110, 116, 105, 112, 104, 111, 110, 108, 97, 119, 49, 52, 46, 84, 119, 105, 110, 69, 110, 100, 115, 32, 97, 110, 116, 105, 112, 104, 111, 110, 47, 97, 110, 116, 105, 112, 104, 111, 110, 108, 97, 119, 49, 52, 46, 84, 119, 105, 110, 72, 101, 97, 114, 115, 32, 97, 110, 116, 105, 112, 104, 111, 110, 47, 97, 110, 116, 105, 112, 104, 111, 110, 108, 97, 119, 50, 51, 46, 67, 108, 97, 115, 115, 84, 97, 98, 108, 101, 32, 97, 110, 116, 105, 112, 104, 111, 110, 47, 97, 110, 116, 105, 112, 104, 111, 110, 108, 97, 119, 50, 51, 46, 67, 108, 97, 115, 115, 75, 110, 111, 119, 110, 32, 97, 110, 116, 105, 112, 104, 111, 110, 47, 97, 110, 116, 105, 112, 104, 111, 110, 108, 97, 119, 50, 51, 46, 67, 108, 97, 115, 115, 82, 101, 102, 117, 115, 101, 115, 32, 97, 110, 116, 105, 112, 104, 111, 110, 47, 97, 110, 116, 105, 112, 104, 111, 110, 108, 97, 119, 50, 51, 46, 67, 108, 97, 115, 115, 65, 110, 115, 119, 101, 114, 115].map Char.ofNat
set_option maxRecDepth 100000 in
theorem order : Try.prog.initOrder = String.ofList ("harness".toList ++ Char.ofNat 32 :: (sum_ ++ Char.ofNat 32 :: ("cut".toList ++ Char.ofNat 32 :: tail_))) := by kernel_rfl
theorem words_ (t : List Char) : wordsSigns ("harness".toList ++ Char.ofNat 32 :: (sum_ ++ Char.ofNat 32 :: ("cut".toList ++ Char.ofNat 32 :: t))) = "harness".toList :: sum_ :: "cut".toList :: wordsSigns t := by kernel_rfl
theorem words : wordsSigns Try.prog.initOrder.toList = "harness".toList :: sum_ :: "cut".toList :: wordsSigns tail_ := by
  rw [order, String.toList_ofList, words_]
theorem behind_ (s : List Char) (r : List (List Char)) (h : isSumSigns s = true) : behindMainWord ("harness".toList :: s :: r) = r := by
  show (if (("harness".toList == "harness".toList || "harness".toList == "ownmain".toList) && isSumSigns s) = true then r else "harness".toList :: s :: r) = r
  rw [h]
  rfl
theorem sumOk : isSumSigns sum_ = true := by kernel_rfl
theorem behind : behindMainWord (wordsSigns Try.prog.initOrder.toList) = "cut".toList :: wordsSigns tail_ := by
  rw [words, behind_ _ _ sumOk]
theorem strip_ (r : List (List Char)) : stripLifts liftWords ("cut".toList :: r) = ([], "cut".toList :: r) := by kernel_rfl
section
variable {P : Program} {r : List (List Char)} (h : behindMainWord (wordsSigns P.initOrder.toList) = "cut".toList :: r)
include h
theorem headLifts_ : P.headLifts = [] := by
  unfold Program.headLifts
  rw [h, strip_]
  rfl
theorem liftsFinal_ : P.liftsFinal = false := by
  unfold Program.liftsFinal
  rw [h, headLifts_ h]
  rfl
theorem make_ : P.make = some .cut := by
  unfold Program.make
  rw [h]
  rfl
theorem mayEnter_ (h1 : P.laysLater = false) (h2 : P.bearsReflect = false) (h3 : P.doorFits [] = true) : P.mayEnter = true := by
  unfold Program.mayEnter
  rw [h]
  simp only [strip_, h1, h2, h3]
  rfl
end
theorem later : Try.prog.laysLater = false := by kernel_rfl
theorem reflect_ : Try.prog.bearsReflect = false := by kernel_rfl
theorem door : Try.prog.doorFits [] = true := by kernel_rfl
theorem mayEnter : Try.prog.mayEnter = true := mayEnter_ behind later reflect_ door
theorem liftsFinal : Try.prog.liftsFinal = false := liftsFinal_ behind
theorem make : Try.prog.make = some .cut := make_ behind
theorem and2 {a b : Bool} (ha : a = true) (hb : b = true) : (a && b) = true := by rw [ha, hb]; rfl
theorem laidOut : laidOutB Try.prog = true := by kernel_rfl
theorem mapsRowed : mapsRowed Try.prog = true := by kernel_rfl
theorem stops : (Try.prog.stops == []) = true := by kernel_rfl
theorem stopKnobs : (Try.prog.stopKnobs == []) = true := by kernel_rfl
theorem stopsHeard : Try.prog.stopsHeard = true := by kernel_rfl
theorem plainKeys : Try.prog.plainKeys = true := by kernel_rfl
theorem own : ownKnob Try.prog.godebug = none := by kernel_rfl
end Go.Proofs.Ytnmcoebjkfpmjaa.Kit
