import Derived.Test.YtpalloofjljhkaaRows
import Derived.KernelRfl
namespace Go.Proofs.Ytpalloofjljhkaa.Kit
def sum_ : List Char := [97, 53, 55, 52, 102, 49, 102, 55, 53, 98, 99, 102, 48, 56, 99, 98, 54, 101, 100, 51, 53, 98, 102, 56, 53, 48, 99, 102, 51, 51, 55, 55, 102, 54, 98, 98, 98, 48, 50, 49, 49, 54, 57, 54, 102, 57, 48, 51, 56, 97, 55, 52, 102, 53, 51, 101, 102, 98, 56, 97, 51, 53, 50, 98].map Char.ofNat
def tail_ : List Char := [97, 116, 32, 97, 110, 116, 105, 112, 104, 111, 110, 47, 97, 110, 116, 105, 112, 104, 111, 110, 108, 97, 119, 50, 46, 67, 114, 99, 90, 101, 114, 111, 32, 97, 110, 116, 105, 112, 104, 111, 110, 47, 97, 110, 116, 105, 112, 104, 111, 110, 108, 97, 119, 50, 46, 67, 114, 99, 76, 105, 110, 101, 97, 114, 32, 97, 110, 116, 105, 112, 104, 111, 110, 47, 97, 110, 116, 105, 112, 104, 111, 110, 108, 97, 119, 50, 46, 67, 114, 99, 80, 97, 114, 116, 115, 32, 97, 110, 116, 105, 112, 104, 111, 110, 47, 97, 110, 116, 105, 112, 104, 111, 110, 108, 97, 119, 50, 46, 67, 114, 99, 85, 110, 108, 105, 107, 101, 32, 97, 110, 116, 105, 112, 104, 111, 110, 47, 97, 110, 116, 105, 112, 104, 111, 110, 108, 97, 119, 50, 46, 67, 114, 99, 66, 117, 114, 115, 116, 115, 32, 97, 110, 116, 105, 112, 104, 111, 110, 47, 97, 110, 116, 105, 112, 104, 111, 110, 108, 97, 119, 50, 46, 67, 114, 99, 75, 110, 111, 119, 110, 32, 97, 110, 116, 105, 112, 104, 111, 110, 47, 97, 110, 116, 105, 112, 104, 111, 110, 108, 97, 119, 50, 46, 67, 114, 99, 83, 117, 109, 115, 32, 97, 110, 116, 105, 112, 104, 111, 110, 47, 97, 110, 116, 105, 112, 104, 111, 110, 108, 97, 119, 51, 46, 77, 97, 99, 70, 114, 97, 109, 101, 115, 32, 97, 110, 116, 105, 112, 104, 111, 110, 47, 97, 110, 116, 105, 112, 104, 111, 110, 108, 97, 119, 51, 46, 77, 97, 99, 66, 97, 99, 107, 32, 97, 110, 116, 105, 112, 104, 111, 110, 47, 97, 110, 116, 105, 112, 104, 111, 110, 108, 97, 119, 51, 46, 77, 97, 99, 80, 97, 100, 115, 32, 97, 110, 116, 105, 112, 104, 111, 110, 47, 97, 110, 116, 105, 112, 104, 111, 110, 108, 97, 119, 51, 46, 77, 97, 99, 67, 117, 116, 115, 32, 97, 110, 116, 105, 112, 104, 111, 110, 47, 97, 110, 116, 105, 112, 104, 111, 110, 108, 97, 119, 51, 46, 77, 97, 99, 76, 101, 110, 103, 116, 104, 32, 97, 110, 116, 105, 112, 104, 111, 110, 47, 97, 110, 116, 105, 112, 104, 111, 110, 108, 97, 119, 51, 46, 77, 97, 99, 78, 117, 109, 98, 101, 114, 115, 32, 97, 110, 116, 105, 112, 104, 111, 110, 47, 97, 110, 116, 105, 112, 104, 111, 110, 108, 97, 119, 51, 46, 77, 97, 99, 75, 110, 111, 119, 110, 32, 97, 110, 116, 105, 112, 104, 111, 110, 47, 97, 110, 116, 105, 112, 104, 111, 110, 108, 97, 119, 51, 46, 77, 97, 99, 84, 97, 107, 101, 115, 32, 97, 110, 116, 105, 112, 104, 111, 110, 47, 97, 110, 116, 105, 112, 104, 111, 110, 108, 97, 119, 51, 46, 77, 97, 99, 71, 114, 111, 117, 112, 115].map Char.ofNat
set_option maxRecDepth 100000 in
theorem order : Try.prog.initOrder = String.ofList ("harness".toList ++ Char.ofNat 32 :: (sum_ ++ Char.ofNat 32 :: ("cut".toList ++ Char.ofNat 32 :: tail_))) := by kernel_rfl
theorem words_ (t : List Char) : wordsSigns ("harness".toList ++ Char.ofNat 32 :: (sum_ ++ Char.ofNat 32 :: ("cut".toList ++ Char.ofNat 32 :: t))) = "harness".toList :: sum_ :: "cut".toList :: wordsSigns t := by kernel_rfl
theorem words : wordsSigns Try.prog.initOrder.toList = "harness".toList :: sum_ :: "cut".toList :: wordsSigns tail_ := by
  rw [order, String.toList_ofList, words_]
theorem behind_ (s : List Char) (r : List (List Char)) (h : isSumSigns s = true) : behindMainWord ("harness".toList :: s :: r) = r := by
  show (if (("harness".toList == "harness".toList || "harness".toList == "ownmain".toList) && isSumSigns s) = true then r else "harness".toList :: s :: r) = r
  rw [h]
  rfl
theorem sumOk : isSumSigns sum_ = true := by kernel_rfl
theorem behind : behindMainWord (wordsSigns Try.prog.initOrder.toList) = "cut".toList :: wordsSigns tail_ := by
  rw [words, behind_ _ _ sumOk]
theorem strip_ (r : List (List Char)) : stripLifts liftWords ("cut".toList :: r) = ([], "cut".toList :: r) := by kernel_rfl
section
variable {P : Program} {r : List (List Char)} (h : behindMainWord (wordsSigns P.initOrder.toList) = "cut".toList :: r)
include h
theorem headLifts_ : P.headLifts = [] := by
  unfold Program.headLifts
  rw [h, strip_]
  rfl
theorem liftsFinal_ : P.liftsFinal = false := by
  unfold Program.liftsFinal
  rw [h, headLifts_ h]
  rfl
theorem make_ : P.make = some .cut := by
  unfold Program.make
  rw [h]
  rfl
theorem mayEnter_ (h1 : P.laysLater = false) (h2 : P.bearsReflect = false) (h3 : P.doorFits [] = true) : P.mayEnter = true := by
  unfold Program.mayEnter
  rw [h]
  simp only [strip_, h1, h2, h3]
  rfl
end
theorem later : Try.prog.laysLater = false := by kernel_rfl
theorem reflect_ : Try.prog.bearsReflect = false := by kernel_rfl
theorem door : Try.prog.doorFits [] = true := by kernel_rfl
theorem mayEnter : Try.prog.mayEnter = true := mayEnter_ behind later reflect_ door
theorem liftsFinal : Try.prog.liftsFinal = false := liftsFinal_ behind
theorem make : Try.prog.make = some .cut := make_ behind
theorem and2 {a b : Bool} (ha : a = true) (hb : b = true) : (a && b) = true := by rw [ha, hb]; rfl
theorem laidOut : laidOutB Try.prog = true := by kernel_rfl
theorem mapsRowed : mapsRowed Try.prog = true := by kernel_rfl
theorem stops : (Try.prog.stops == []) = true := by kernel_rfl
theorem stopKnobs : (Try.prog.stopKnobs == []) = true := by kernel_rfl
theorem stopsHeard : Try.prog.stopsHeard = true := by kernel_rfl
theorem plainKeys : Try.prog.plainKeys = true := by kernel_rfl
theorem own : ownKnob Try.prog.godebug = none := by kernel_rfl
end Go.Proofs.Ytpalloofjljhkaa.Kit
