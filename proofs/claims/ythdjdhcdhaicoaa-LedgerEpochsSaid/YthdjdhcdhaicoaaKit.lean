import Derived.Test.YthdjdhcdhaicoaaRows
import Derived.KernelRfl
namespace Go.Proofs.Ythdjdhcdhaicoaa.Kit
def sum_ : List Char := [99, 48, 54, 48, 52, 56, 101, 48, 98, 49, 57, 99, 49, 102, 102, 53, 50, 50, 56, 53, 56, 97, 52, 52, 97, 55, 55, 48, 53, 97, 102, 97, 49, 101, 98, 50, 50, 53, 52, 55, 97, 48, 101, 55, 55, 101, 101, 49, 101, 57, 100, 97, 52, 57, 57, 101, 48, 51, 49, 49, 97, 51, 97, 53].map Char.ofNat
def tail_ : List Char := [97, 116, 32, 97, 110, 116, 105, 112, 104, 111, 110, 47, 97, 110, 116, 105, 112, 104, 111, 110, 108, 97, 119, 50, 54, 46, 76, 101, 100, 103, 101, 114, 80, 97, 114, 116, 115, 32, 97, 110, 116, 105, 112, 104, 111, 110, 47, 97, 110, 116, 105, 112, 104, 111, 110, 108, 97, 119, 50, 54, 46, 76, 101, 100, 103, 101, 114, 69, 112, 111, 99, 104, 115, 32, 97, 110, 116, 105, 112, 104, 111, 110, 47, 97, 110, 116, 105, 112, 104, 111, 110, 108, 97, 119, 50, 54, 46, 76, 101, 100, 103, 101, 114, 82, 117, 110, 115, 32, 97, 110, 116, 105, 112, 104, 111, 110, 47, 97, 110, 116, 105, 112, 104, 111, 110, 108, 97, 119, 50, 54, 46, 76, 101, 100, 103, 101, 114, 75, 110, 111, 119, 110, 32, 97, 110, 116, 105, 112, 104, 111, 110, 47, 97, 110, 116, 105, 112, 104, 111, 110, 108, 97, 119, 50, 54, 46, 76, 101, 100, 103, 101, 114, 79, 110, 101].map Char.ofNat
set_option maxRecDepth 100000 in
theorem order : Try.prog.initOrder = String.ofList ("harness".toList ++ Char.ofNat 32 :: (sum_ ++ Char.ofNat 32 :: ("cut".toList ++ Char.ofNat 32 :: tail_))) := by kernel_rfl
theorem words_ (t : List Char) : wordsSigns ("harness".toList ++ Char.ofNat 32 :: (sum_ ++ Char.ofNat 32 :: ("cut".toList ++ Char.ofNat 32 :: t))) = "harness".toList :: sum_ :: "cut".toList :: wordsSigns t := by kernel_rfl
theorem words : wordsSigns Try.prog.initOrder.toList = "harness".toList :: sum_ :: "cut".toList :: wordsSigns tail_ := by
  rw [order, String.toList_ofList, words_]
theorem behind_ (s : List Char) (r : List (List Char)) (h : isSumSigns s = true) : behindMainWord ("harness".toList :: s :: r) = r := by
  show (if (("harness".toList == "harness".toList || "harness".toList == "ownmain".toList) && isSumSigns s) = true then r else "harness".toList :: s :: r) = r
  rw [h]
  rfl
theorem sumOk : isSumSigns sum_ = true := by kernel_rfl
theorem behind : behindMainWord (wordsSigns Try.prog.initOrder.toList) = "cut".toList :: wordsSigns tail_ := by
  rw [words, behind_ _ _ sumOk]
theorem strip_ (r : List (List Char)) : stripLifts liftWords ("cut".toList :: r) = ([], "cut".toList :: r) := by kernel_rfl
section
variable {P : Program} {r : List (List Char)} (h : behindMainWord (wordsSigns P.initOrder.toList) = "cut".toList :: r)
include h
theorem headLifts_ : P.headLifts = [] := by
  unfold Program.headLifts
  rw [h, strip_]
  rfl
theorem liftsFinal_ : P.liftsFinal = false := by
  unfold Program.liftsFinal
  rw [h, headLifts_ h]
  rfl
theorem make_ : P.make = some .cut := by
  unfold Program.make
  rw [h]
  rfl
theorem mayEnter_ (h1 : P.laysLater = false) (h2 : P.bearsReflect = false) (h3 : P.doorFits [] = true) : P.mayEnter = true := by
  unfold Program.mayEnter
  rw [h]
  simp only [strip_, h1, h2, h3]
  rfl
end
theorem later : Try.prog.laysLater = false := by kernel_rfl
theorem reflect_ : Try.prog.bearsReflect = false := by kernel_rfl
theorem door : Try.prog.doorFits [] = true := by kernel_rfl
theorem mayEnter : Try.prog.mayEnter = true := mayEnter_ behind later reflect_ door
theorem liftsFinal : Try.prog.liftsFinal = false := liftsFinal_ behind
theorem make : Try.prog.make = some .cut := make_ behind
theorem and2 {a b : Bool} (ha : a = true) (hb : b = true) : (a && b) = true := by rw [ha, hb]; rfl
theorem laidOut : laidOutB Try.prog = true := by kernel_rfl
theorem mapsRowed : mapsRowed Try.prog = true := by kernel_rfl
theorem stops : (Try.prog.stops == []) = true := by kernel_rfl
theorem stopKnobs : (Try.prog.stopKnobs == []) = true := by kernel_rfl
theorem stopsHeard : Try.prog.stopsHeard = true := by kernel_rfl
theorem plainKeys : Try.prog.plainKeys = true := by kernel_rfl
theorem own : ownKnob Try.prog.godebug = none := by kernel_rfl
end Go.Proofs.Ythdjdhcdhaicoaa.Kit
