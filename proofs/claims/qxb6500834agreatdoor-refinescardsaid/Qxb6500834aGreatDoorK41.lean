import Derived.Test.Qxb6500834aGreatDoorK36
import Derived.Test.Qxb6500834aGreatDoorTie
import Derived.Test.Qxb6500834aGreatDoorCards
import Derived.JoinedOf
import Derived.SevenTiedAt
import Derived.KernelRfl
-- K41: the head of the program (its long word is read by laws, the kernel counts its signs too dearly): what rows and cards ask of it
set_option linter.unusedVariables false
set_option linter.unusedSimpArgs false
set_option maxRecDepth 100000
namespace Go.Proofs.Qxb6500834aGreatDoor

def ioA : List Char := [104, 97, 114, 110, 101, 115, 115].map Char.ofNat
def ioB : List Char := [57, 55, 97, 99, 56, 55, 100, 102, 97, 99, 51, 102, 50, 48, 55, 49, 51, 101, 102, 102, 99, 51, 55, 98, 53, 97, 54, 53, 97, 101, 98, 98, 54, 53, 54, 98, 48, 97, 57, 57, 52, 50, 54, 53, 52, 102, 48, 51, 49, 55, 53, 100, 50, 100, 51, 52, 102, 52, 54, 100, 54, 52, 57, 51].map Char.ofNat
def ioC : List Char := [99, 117, 116].map Char.ofNat
def ioR : List Char := [97, 116, 32, 101, 50, 101, 47, 107, 101, 114, 110, 101, 108, 108, 97, 119, 46, 86, 105, 99, 116, 105, 109, 115, 76, 105, 101, 79, 110, 67, 121, 99, 108, 101, 115, 32, 101, 50, 101, 47, 107, 101, 114, 110, 101, 108, 108, 97, 119, 46, 65, 98, 111, 114, 116, 115, 66, 121, 65, 103, 101, 72, 97, 118, 101, 65, 110, 79, 108, 100, 101, 114, 87, 105, 116, 110, 101, 115, 115, 32, 101, 50, 101, 47, 107, 101, 114, 110, 101, 108, 108, 97, 119, 46, 66, 97, 110, 107, 101, 114, 83, 116, 97, 121, 115, 83, 97, 102, 101, 32, 101, 50, 101, 47, 107, 101, 114, 110, 101, 108, 108, 97, 119, 46, 78, 111, 71, 114, 97, 110, 116, 97, 98, 108, 101, 72, 101, 97, 100, 73, 115, 76, 101, 102, 116, 87, 97, 105, 116, 105, 110, 103, 32, 101, 50, 101, 47, 107, 101, 114, 110, 101, 108, 108, 97, 119, 46, 82, 101, 102, 105, 110, 101, 115, 32, 101, 50, 101, 47, 107, 101, 114, 110, 101, 108, 108, 97, 119, 46, 85, 110, 100, 111, 82, 101, 115, 116, 111, 114, 101, 115, 87, 114, 105, 116, 116, 101, 110, 86, 97, 108, 117, 101, 115, 32, 101, 50, 101, 47, 107, 101, 114, 110, 101, 108, 108, 97, 119, 46, 70, 117, 108, 108, 76, 111, 103, 82, 101, 102, 117, 115, 101, 115, 84, 104, 101, 87, 114, 105, 116, 101, 32, 101, 50, 101, 47, 107, 101, 114, 110, 101, 108, 108, 97, 119, 46, 87, 114, 105, 116, 101, 115, 78, 101, 101, 100, 84, 104, 101, 87, 114, 105, 116, 101, 76, 111, 99, 107, 32, 101, 50, 101, 47, 107, 101, 114, 110, 101, 108, 108, 97, 119, 46, 69, 120, 105, 116, 71, 105, 118, 101, 115, 69, 118, 101, 114, 121, 116, 104, 105, 110, 103, 66, 97, 99, 107, 32, 101, 50, 101, 47, 107, 101, 114, 110, 101, 108, 108, 97, 119, 46, 69, 112, 111, 99, 104, 115, 65, 114, 101, 78, 101, 118, 101, 114, 82, 101, 117, 115, 101, 100, 32, 101, 50, 101, 47, 107, 101, 114, 110, 101, 108, 108, 97, 119, 46, 83, 112, 97, 119, 110, 66, 101, 121, 111, 110, 100, 83, 105, 120, 116, 101, 101, 110, 73, 115, 82, 101, 102, 117, 115, 101, 100, 32, 101, 50, 101, 47, 107, 101, 114, 110, 101, 108, 108, 97, 119, 46, 82, 101, 102, 117, 115, 97, 108, 115, 67, 104, 97, 110, 103, 101, 78, 111, 116, 104, 105, 110, 103, 32, 101, 50, 101, 47, 107, 101, 114, 110, 101, 108, 108, 97, 119, 46, 85, 110, 105, 116, 115, 65, 114, 101, 67, 111, 110, 115, 101, 114, 118, 101, 100, 32, 101, 50, 101, 47, 107, 101, 114, 110, 101, 108, 108, 97, 119, 46, 82, 111, 108, 108, 98, 97, 99, 107, 76, 101, 97, 118, 101, 115, 79, 116, 104, 101, 114, 115, 65, 108, 111, 110, 101, 32, 101, 50, 101, 47, 107, 101, 114, 110, 101, 108, 108, 97, 119, 46, 66, 105, 114, 116, 104, 83, 116, 97, 109, 112, 115, 83, 117, 114, 118, 105, 118, 101, 82, 101, 115, 116, 97, 114, 116, 32, 101, 50, 101, 47, 107, 101, 114, 110, 101, 108, 108, 97, 119, 46, 69, 118, 101, 114, 121, 80, 101, 110, 100, 105, 110, 103, 67, 97, 108, 108, 73, 115, 65, 110, 115, 119, 101, 114, 101, 100, 79, 110, 99, 101, 32, 101, 50, 101, 47, 107, 101, 114, 110, 101, 108, 108, 97, 119, 46, 84, 105, 109, 101, 100, 87, 97, 105, 116, 115, 69, 110, 100, 79, 110, 84, 105, 109, 101, 32, 101, 50, 101, 47, 107, 101, 114, 110, 101, 108, 108, 97, 119, 46, 90, 101, 114, 111, 84, 105, 99, 107, 115, 73, 115, 84, 114, 121, 32, 101, 50, 101, 47, 107, 101, 114, 110, 101, 108, 108, 97, 119, 46, 68, 105, 114, 116, 121, 76, 111, 99, 107, 115, 83, 116, 97, 121, 72, 101, 108, 100, 32, 101, 50, 101, 47, 107, 101, 114, 110, 101, 108, 108, 97, 119, 46, 67, 108, 97, 105, 109, 115, 65, 114, 101, 75, 101, 112, 116].map Char.ofNat
def ioW : List (List Char) := wordsSigns ioR

theorem wordsSigns_cons (c : Char) (r : List Char) (h : c ≠ Char.ofNat 32) : wordsSigns (c :: r) = (match wordsSigns r with | w :: ws => (c :: w) :: ws | [] => [[c]]) := by
  conv => lhs; unfold wordsSigns
  split
  · rename_i heq; cases heq
  · rename_i heq; cases heq; exact absurd rfl h
  · rename_i heq; cases heq; rfl

theorem wordsSigns_word (w r : List Char) (h : (w.all fun c => decide (c ≠ Char.ofNat 32)) = true) : wordsSigns (w ++ Char.ofNat 32 :: r) = w :: wordsSigns r := by
  induction w with
  | nil => rfl
  | cons c w ih =>
    simp only [List.all_cons, Bool.and_eq_true, decide_eq_true_eq] at h
    rw [List.cons_append, wordsSigns_cons c _ h.1, ih (by simpa using h.2)]

theorem io_is : Tryz.prog.initOrder = String.ofList (ioA ++ Char.ofNat 32 :: (ioB ++ Char.ofNat 32 :: (ioC ++ Char.ofNat 32 :: ioR))) := by kernel_rfl
theorem io_words : wordsSigns Tryz.prog.initOrder.toList = ioA :: ioB :: ioC :: ioW := by
  rw [io_is, String.toList_ofList, wordsSigns_word ioA _ (by kernel_rfl), wordsSigns_word ioB _ (by kernel_rfl), wordsSigns_word ioC _ (by kernel_rfl)]
  rfl
theorem io_behind : behindMainWord (wordsSigns Tryz.prog.initOrder.toList) = ioC :: ioW := by
  rw [io_words]; generalize ioW = X; kernel_rfl
theorem io_strip (X : List (List Char)) : stripLifts liftWords (ioC :: X) = ([], ioC :: X) := by kernel_rfl
theorem io_gc : (ioC == "gc".toList) = false := by kernel_rfl
theorem io_spec : (ioC == "spec".toList) = false := by kernel_rfl
theorem io_cut : (ioC == "cut".toList) = true := by kernel_rfl
theorem io_carried : (ioC == "carried".toList) = false := by kernel_rfl
theorem io_ccut : ((some ioC) == some "cut".toList) = true := by kernel_rfl
theorem io_ccar : ((some ioC) == some "carried".toList) = false := by kernel_rfl
theorem io_sum : isSumSigns ioB = true := by kernel_rfl
theorem io_harness : (ioA == "harness".toList) = true := by kernel_rfl
theorem io_lays : Tryz.prog.laysLater = false := by kernel_rfl
theorem io_refl : Tryz.prog.bearsReflect = false := by kernel_rfl
theorem io_door : Tryz.prog.doorFits [] = true := by kernel_rfl

theorem make_of (P : Program) (X : List (List Char)) (h : behindMainWord (wordsSigns P.initOrder.toList) = ioC :: X) : P.make = some .cut := by
  unfold Program.make; rw [h]; simp only [io_gc, io_spec, io_cut, Bool.or_self, Bool.true_or, if_true]; rfl
theorem mayEnter_of (P : Program) (X : List (List Char)) (h : behindMainWord (wordsSigns P.initOrder.toList) = ioC :: X) (h1 : P.laysLater = false) (h2 : P.bearsReflect = false) (h3 : P.doorFits [] = true) : P.mayEnter = true := by
  unfold Program.mayEnter; rw [h]; simp only [io_gc, io_spec, io_carried, io_strip, List.head?_cons, io_ccut, h1, h2, h3, Bool.or_self, Bool.false_and, Bool.true_or, Bool.not_false, Bool.or_true, Bool.true_and, Bool.false_or, List.contains_nil]
theorem headLifts_of (P : Program) (X : List (List Char)) (h : behindMainWord (wordsSigns P.initOrder.toList) = ioC :: X) : P.headLifts = [] := by
  unfold Program.headLifts; rw [h, io_strip]; exact ite_self _
theorem liftsFinal_of (P : Program) (X : List (List Char)) (h : behindMainWord (wordsSigns P.initOrder.toList) = ioC :: X) : P.liftsFinal = false := by
  unfold Program.liftsFinal; rw [headLifts_of P X h, h]; simp only [List.head?_cons, io_ccar, Bool.false_and, Bool.false_or, List.contains_nil]
theorem mainIs_of (P : Program) (X : List (List Char)) (h : wordsSigns P.initOrder.toList = ioA :: ioB :: X) : P.mainIs = some (true, ioB) := by
  unfold Program.mainIs; rw [h]; simp only [io_sum, io_harness, Bool.not_true, if_true]; rfl

theorem make_is : Tryz.prog.make = some .cut := make_of _ _ io_behind
theorem mayEnter_is : Tryz.prog.mayEnter = true := mayEnter_of _ _ io_behind io_lays io_refl io_door
theorem headLifts_is : Tryz.prog.headLifts = [] := headLifts_of _ _ io_behind
theorem liftsFinal_is : Tryz.prog.liftsFinal = false := liftsFinal_of _ _ io_behind
theorem mainIs_is : Tryz.prog.mainIs = some (true, ioB) := mainIs_of _ _ io_words
theorem Tryz.mapsRowed : mapsRowed Tryz.prog = true := by kernel_rfl
theorem harness_is : (some (true, ioB) : Option (Bool × List Char)) = some (true, "97ac87dfac3f20713effc37b5a65aebb656b0a9942654f03175d2d34f46d6493".toList) := by kernel_rfl
theorem looks_is : false = Tryz.prog.looks [] := by kernel_rfl
theorem stand_is : ([22].all fun u => !Tryz.prog.wantsStandIn u) = true := by kernel_rfl
end Go.Proofs.Qxb6500834aGreatDoor

