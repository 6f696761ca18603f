/- KernelTrue: for every scale and any numbers, which choose the kernel, the registers and what is lost, the law returns true, and each argument reads afterwards as it read before. Condition: when the call begins the package's table of rules reads as the program's text lays it; the card ties that to the text. -/
import Derived.Below
import Derived.Carry
import Derived.LaidMore
import Derived.OpenShut
import Derived.ProofKit
import Derived.SevenTiedAt
import Derived.SizedLaws
import Derived.Stop.Joined
import Derived.WalkKit
import Derived.Test.YtagkfkdoibnhfaaDoorCards
import Derived.Test.YtagkfkdoibnhfaaDoorTie
import Derived.Test.YtagkfkdoibnhfaaDoorZB2
import Derived.Test.YtagkfkdoibnhfaaDoorZB4
import Derived.Test.YtagkfkdoibnhfaaDoorZTrue1
set_option linter.all false
section
namespace Go.Proofs.YtagkfkdoibnhfaaDoor.H
open Go.RowKit Go.Proofs.YtagkfkdoibnhfaaDoorW.PrintWords Go.Proofs.YtagkfkdoibnhfaaDoorW.PrintLast Go.Proofs.YtagkfkdoibnhfaaDoorW.PrintMore
attribute [local go_sem] max2_int min2_int max_two min_two max_three min_three max_four min_four   -- for this text's walks alone
set_option linter.unusedVariables false
set_option linter.unusedSimpArgs false
open Go.Proofs.YtagkfkdoibnhfaaDoor.K
def saronlaw06_KernelTrue.T4 : Bool × List (List Nat × List Nat) := (true, [([], []), ([], []), ([], []), ([], []), ([3], [3]), ([4], [4]), ([0, 1, 2, 5, 4], [0, 1, 2, 5]), ([6], [6]), ([7], [7]), ([7], [7]), ([7], [7]), ([8, 6, 0, 1, 2, 3, 4, 5, 6, 7, 8], [8]), ([9, 11, 0, 1, 2, 3, 4, 5, 6, 7, 8, 9, 11], [9]), ([10, 12, 0, 1, 2, 3, 4, 5, 6, 7, 8, 9, 10, 11, 12], [10])])
def saronlaw06_KernelTrue.B4 : List Nat := [0, 0, 0, 0, 8, 24, 63, 127, 255, 255, 255, 511, 3071, 8191]
theorem saronlaw06_KernelTrue.tab4 : rtab .any (opsOf Tryd.f7 4) = saronlaw06_KernelTrue.T4 := by kernel_rfl
theorem saronlaw06_KernelTrue.bits4 : waitsOk saronlaw06_KernelTrue.T4.2 saronlaw06_KernelTrue.B4 = true := by kernel_rfl
def saronlaw06_KernelTrue.T19 : Bool × List (List Nat × List Nat) := (true, [([], []), ([], []), ([0, 1], [0, 1]), ([2], [2]), ([3], [3]), ([], []), ([], []), ([5, 6], [5, 6]), ([7], [7]), ([8], [8]), ([4, 9], [4, 9])])
def saronlaw06_KernelTrue.B19 : List Nat := [0, 0, 3, 7, 15, 0, 0, 96, 224, 480, 1023]
theorem saronlaw06_KernelTrue.tab19 : rtab .any (opsOf Tryd.f7 19) = saronlaw06_KernelTrue.T19 := by kernel_rfl
theorem saronlaw06_KernelTrue.bits19 : waitsOk saronlaw06_KernelTrue.T19.2 saronlaw06_KernelTrue.B19 = true := by kernel_rfl
def saronlaw06_KernelTrue.T24 : Bool × List (List Nat × List Nat) := (true, [([], []), ([], []), ([0, 1], [0, 1]), ([2], [2]), ([], []), ([3, 4], [3, 4]), ([5], [5]), ([], []), ([], []), ([7, 8], [7, 8]), ([9], [9]), ([], []), ([10, 11], [10, 11]), ([12], [12]), ([6, 13], [6, 13]), ([14], [14]), ([15], [15]), ([15], [15]), ([16, 17, 15], [15, 16, 17]), ([18, 15], [15, 18]), ([15], [15]), ([19, 20, 15], [15, 19, 20]), ([21, 15], [15, 21]), ([22, 15], [15, 22]), ([23, 15, 15], [15, 23]), ([24], [24]), ([24], [24]), ([25, 26, 24], [24, 25, 26]), ([27, 24], [24, 27]), ([28, 24], [24, 28]), ([24], [24]), ([29, 30, 24], [24, 29, 30]), ([31, 24], [24, 31]), ([32, 24], [24, 32]), ([24, 33, 15], [15, 24, 33]), ([15, 34], [15, 34])])
def saronlaw06_KernelTrue.B24 : List Nat := [0, 0, 3, 7, 0, 31, 63, 0, 0, 384, 896, 0, 3968, 8064, 16383, 32767, 65535, 65535, 262143, 524287, 65535, 2097151, 4194303, 8388607, 16777215, 33554431, 33554431, 134217727, 268435455, 536870911, 33554431, 2147483647, 4294967295, 8589934591, 17179869183, 34359738367]
theorem saronlaw06_KernelTrue.tab24 : rtab .any (opsOf Tryd.f7 24) = saronlaw06_KernelTrue.T24 := by kernel_rfl
theorem saronlaw06_KernelTrue.bits24 : waitsOk saronlaw06_KernelTrue.T24.2 saronlaw06_KernelTrue.B24 = true := by kernel_rfl
set_option maxHeartbeats 40000000 in
set_option maxRecDepth 100000 in
theorem saronlaw06_KernelTrue.calls (k : Nat) (a0_0 : Int) (a0_1 : Int) (a0_2 : Int) (A0_3 : Option Addr) (c0_3 : Nat) (l0_3 : List (S66)) (A1 : Option Addr) (c1 : Nat) (l1 : List Int) (a2 : Int) (r : Bool) (w : World) (hr0_3 : Kd.C k66 w A0_3 l0_3.length l0_3) (hc0_3 : l0_3.length ≤ c0_3) (hr1 : Kd.C (Kd.int .i64) w A1 l1.length l1) (hc1 : l1.length ≤ c1) (hG : Glob w) (h : saronlaw06_KernelTrue.f k a0_0 a0_1 a0_2 l0_3 l1 a2 = some r) :
  Calls Tryd.prog 7 #[.agg #[.int .i64 a0_0, .int .i64 a0_1, .int .i64 a0_2, .slice A0_3 l0_3.length c0_3], .slice A1 l1.length c1, .int .i64 a2] w fun e w' => e = .returned (.bool r) ∧ Below w.heap.size w w' := by
 have hu24 := Tryd.underlying24
 have HG := zh hG
 clear hG
 have HR0_3 := zh hr0_3
 have HC0_3 := zh hc0_3
 clear hr0_3 hc0_3
 have HR1 := zh hr1
 have HC1 := zh hc1
 clear hr1 hc1
 have HB := zh (Below.refl w.heap.size w)
 have H : ((saronlaw06_sound.f k a0_0 a0_1 a0_2 l0_3).bind fun t512 => (if t512 = true then ((saronlaw06_truly.f k a0_0 a0_1 a0_2 l0_3 l1).bind fun t514 => ((saronref00_Turn.f a2 5).bind fun t517 => ((saronlaw06_listened.f k a0_0 a0_1 a0_2 l0_3 t514 l1 (wrap64 (1 + t517))).bind fun bt518 => ((kernel_Many.f a0_0 a0_1 a0_2 l0_3 bt518.1).bind fun bt525 => ((kernel_Filled.f a0_0 a0_1 a0_2 l0_3 bt518.1).bind fun bt527 => ((kernel_Least.f a0_0 a0_1 a0_2 l0_3 bt518.1).bind fun bt531 => (if bt518.2.2 = true then (if bt525.2 = 0 then (if bt527.2 = 0 then (if bt531.2 = 0 then (if bt525.1 < 1 then (saronlaw06_KernelTrue.j0 k t514 bt518.1 bt518.2.1 bt525.1 bt527.1 true a0_0 a0_1 a0_2 l0_3) else (if bt531.1 = 0 then (saronlaw06_KernelTrue.j0 k t514 bt518.1 bt518.2.1 bt525.1 bt527.1 ((bt527.1.length : Int) != (bt518.1.length : Int)) a0_0 a0_1 a0_2 l0_3) else (saronlaw06_KernelTrue.j0 k t514 bt518.1 bt518.2.1 bt525.1 bt527.1 true a0_0 a0_1 a0_2 l0_3))) else (saronlaw06_KernelTrue.j0 k t514 bt518.1 bt518.2.1 bt525.1 bt527.1 true a0_0 a0_1 a0_2 l0_3)) else (saronlaw06_KernelTrue.j0 k t514 bt518.1 bt518.2.1 bt525.1 bt527.1 true a0_0 a0_1 a0_2 l0_3)) else (saronlaw06_KernelTrue.j0 k t514 bt518.1 bt518.2.1 bt525.1 bt527.1 true a0_0 a0_1 a0_2 l0_3)) else (saronlaw06_KernelTrue.j0 k t514 bt518.1 bt518.2.1 bt525.1 bt527.1 true a0_0 a0_1 a0_2 l0_3)))))))) else ((saronlaw06_works.f).bind fun t513 => (some t513)))) = some r := h
 clear h
 replace H := Option.bind_eq_some_iff.mp H
 obtain ⟨t512, A40, H⟩ := H
 replace H : (if t512 = true then ((saronlaw06_truly.f k a0_0 a0_1 a0_2 l0_3 l1).bind fun t514 => ((saronref00_Turn.f a2 5).bind fun t517 => ((saronlaw06_listened.f k a0_0 a0_1 a0_2 l0_3 t514 l1 (wrap64 (1 + t517))).bind fun bt518 => ((kernel_Many.f a0_0 a0_1 a0_2 l0_3 bt518.1).bind fun bt525 => ((kernel_Filled.f a0_0 a0_1 a0_2 l0_3 bt518.1).bind fun bt527 => ((kernel_Least.f a0_0 a0_1 a0_2 l0_3 bt518.1).bind fun bt531 => (if bt518.2.2 = true then (if bt525.2 = 0 then (if bt527.2 = 0 then (if bt531.2 = 0 then (if bt525.1 < 1 then (saronlaw06_KernelTrue.j0 k t514 bt518.1 bt518.2.1 bt525.1 bt527.1 true a0_0 a0_1 a0_2 l0_3) else (if bt531.1 = 0 then (saronlaw06_KernelTrue.j0 k t514 bt518.1 bt518.2.1 bt525.1 bt527.1 ((bt527.1.length : Int) != (bt518.1.length : Int)) a0_0 a0_1 a0_2 l0_3) else (saronlaw06_KernelTrue.j0 k t514 bt518.1 bt518.2.1 bt525.1 bt527.1 true a0_0 a0_1 a0_2 l0_3))) else (saronlaw06_KernelTrue.j0 k t514 bt518.1 bt518.2.1 bt525.1 bt527.1 true a0_0 a0_1 a0_2 l0_3)) else (saronlaw06_KernelTrue.j0 k t514 bt518.1 bt518.2.1 bt525.1 bt527.1 true a0_0 a0_1 a0_2 l0_3)) else (saronlaw06_KernelTrue.j0 k t514 bt518.1 bt518.2.1 bt525.1 bt527.1 true a0_0 a0_1 a0_2 l0_3)) else (saronlaw06_KernelTrue.j0 k t514 bt518.1 bt518.2.1 bt525.1 bt527.1 true a0_0 a0_1 a0_2 l0_3)))))))) else ((saronlaw06_works.f).bind fun t513 => (some t513))) = some r := H
 have A4 := zh A40
 clear A40
 by_cases c5 : t512 = true
 ·subst c5
  have H1 : ((saronlaw06_truly.f k a0_0 a0_1 a0_2 l0_3 l1).bind fun t514 => ((saronref00_Turn.f a2 5).bind fun t517 => ((saronlaw06_listened.f k a0_0 a0_1 a0_2 l0_3 t514 l1 (wrap64 (1 + t517))).bind fun bt518 => ((kernel_Many.f a0_0 a0_1 a0_2 l0_3 bt518.1).bind fun bt525 => ((kernel_Filled.f a0_0 a0_1 a0_2 l0_3 bt518.1).bind fun bt527 => ((kernel_Least.f a0_0 a0_1 a0_2 l0_3 bt518.1).bind fun bt531 => (if bt518.2.2 = true then (if bt525.2 = 0 then (if bt527.2 = 0 then (if bt531.2 = 0 then (if bt525.1 < 1 then (saronlaw06_KernelTrue.j0 k t514 bt518.1 bt518.2.1 bt525.1 bt527.1 true a0_0 a0_1 a0_2 l0_3) else (if bt531.1 = 0 then (saronlaw06_KernelTrue.j0 k t514 bt518.1 bt518.2.1 bt525.1 bt527.1 ((bt527.1.length : Int) != (bt518.1.length : Int)) a0_0 a0_1 a0_2 l0_3) else (saronlaw06_KernelTrue.j0 k t514 bt518.1 bt518.2.1 bt525.1 bt527.1 true a0_0 a0_1 a0_2 l0_3))) else (saronlaw06_KernelTrue.j0 k t514 bt518.1 bt518.2.1 bt525.1 bt527.1 true a0_0 a0_1 a0_2 l0_3)) else (saronlaw06_KernelTrue.j0 k t514 bt518.1 bt518.2.1 bt525.1 bt527.1 true a0_0 a0_1 a0_2 l0_3)) else (saronlaw06_KernelTrue.j0 k t514 bt518.1 bt518.2.1 bt525.1 bt527.1 true a0_0 a0_1 a0_2 l0_3)) else (saronlaw06_KernelTrue.j0 k t514 bt518.1 bt518.2.1 bt525.1 bt527.1 true a0_0 a0_1 a0_2 l0_3)))))))) = some r := by rw [if_pos rfl] at H; exact H
  clear H
  have H := H1
  clear H1
  replace H := Option.bind_eq_some_iff.mp H
  obtain ⟨t514, A60, H⟩ := H
  replace H : ((saronref00_Turn.f a2 5).bind fun t517 => ((saronlaw06_listened.f k a0_0 a0_1 a0_2 l0_3 t514 l1 (wrap64 (1 + t517))).bind fun bt518 => ((kernel_Many.f a0_0 a0_1 a0_2 l0_3 bt518.1).bind fun bt525 => ((kernel_Filled.f a0_0 a0_1 a0_2 l0_3 bt518.1).bind fun bt527 => ((kernel_Least.f a0_0 a0_1 a0_2 l0_3 bt518.1).bind fun bt531 => (if bt518.2.2 = true then (if bt525.2 = 0 then (if bt527.2 = 0 then (if bt531.2 = 0 then (if bt525.1 < 1 then (saronlaw06_KernelTrue.j0 k t514 bt518.1 bt518.2.1 bt525.1 bt527.1 true a0_0 a0_1 a0_2 l0_3) else (if bt531.1 = 0 then (saronlaw06_KernelTrue.j0 k t514 bt518.1 bt518.2.1 bt525.1 bt527.1 ((bt527.1.length : Int) != (bt518.1.length : Int)) a0_0 a0_1 a0_2 l0_3) else (saronlaw06_KernelTrue.j0 k t514 bt518.1 bt518.2.1 bt525.1 bt527.1 true a0_0 a0_1 a0_2 l0_3))) else (saronlaw06_KernelTrue.j0 k t514 bt518.1 bt518.2.1 bt525.1 bt527.1 true a0_0 a0_1 a0_2 l0_3)) else (saronlaw06_KernelTrue.j0 k t514 bt518.1 bt518.2.1 bt525.1 bt527.1 true a0_0 a0_1 a0_2 l0_3)) else (saronlaw06_KernelTrue.j0 k t514 bt518.1 bt518.2.1 bt525.1 bt527.1 true a0_0 a0_1 a0_2 l0_3)) else (saronlaw06_KernelTrue.j0 k t514 bt518.1 bt518.2.1 bt525.1 bt527.1 true a0_0 a0_1 a0_2 l0_3))))))) = some r := H
  have A6 := zh A60
  clear A60
  replace H := Option.bind_eq_some_iff.mp H
  obtain ⟨t517, A70, H⟩ := H
  replace H : ((saronlaw06_listened.f k a0_0 a0_1 a0_2 l0_3 t514 l1 (wrap64 (1 + t517))).bind fun bt518 => ((kernel_Many.f a0_0 a0_1 a0_2 l0_3 bt518.1).bind fun bt525 => ((kernel_Filled.f a0_0 a0_1 a0_2 l0_3 bt518.1).bind fun bt527 => ((kernel_Least.f a0_0 a0_1 a0_2 l0_3 bt518.1).bind fun bt531 => (if bt518.2.2 = true then (if bt525.2 = 0 then (if bt527.2 = 0 then (if bt531.2 = 0 then (if bt525.1 < 1 then (saronlaw06_KernelTrue.j0 k t514 bt518.1 bt518.2.1 bt525.1 bt527.1 true a0_0 a0_1 a0_2 l0_3) else (if bt531.1 = 0 then (saronlaw06_KernelTrue.j0 k t514 bt518.1 bt518.2.1 bt525.1 bt527.1 ((bt527.1.length : Int) != (bt518.1.length : Int)) a0_0 a0_1 a0_2 l0_3) else (saronlaw06_KernelTrue.j0 k t514 bt518.1 bt518.2.1 bt525.1 bt527.1 true a0_0 a0_1 a0_2 l0_3))) else (saronlaw06_KernelTrue.j0 k t514 bt518.1 bt518.2.1 bt525.1 bt527.1 true a0_0 a0_1 a0_2 l0_3)) else (saronlaw06_KernelTrue.j0 k t514 bt518.1 bt518.2.1 bt525.1 bt527.1 true a0_0 a0_1 a0_2 l0_3)) else (saronlaw06_KernelTrue.j0 k t514 bt518.1 bt518.2.1 bt525.1 bt527.1 true a0_0 a0_1 a0_2 l0_3)) else (saronlaw06_KernelTrue.j0 k t514 bt518.1 bt518.2.1 bt525.1 bt527.1 true a0_0 a0_1 a0_2 l0_3)))))) = some r := H
  have A7 := zh A70
  clear A70
  replace H := Option.bind_eq_some_iff.mp H
  obtain ⟨⟨t518, t521, t524⟩, A80, H⟩ := H
  replace H : ((kernel_Many.f a0_0 a0_1 a0_2 l0_3 t518).bind fun bt525 => ((kernel_Filled.f a0_0 a0_1 a0_2 l0_3 t518).bind fun bt527 => ((kernel_Least.f a0_0 a0_1 a0_2 l0_3 t518).bind fun bt531 => (if t524 = true then (if bt525.2 = 0 then (if bt527.2 = 0 then (if bt531.2 = 0 then (if bt525.1 < 1 then (saronlaw06_KernelTrue.j0 k t514 t518 t521 bt525.1 bt527.1 true a0_0 a0_1 a0_2 l0_3) else (if bt531.1 = 0 then (saronlaw06_KernelTrue.j0 k t514 t518 t521 bt525.1 bt527.1 ((bt527.1.length : Int) != (t518.length : Int)) a0_0 a0_1 a0_2 l0_3) else (saronlaw06_KernelTrue.j0 k t514 t518 t521 bt525.1 bt527.1 true a0_0 a0_1 a0_2 l0_3))) else (saronlaw06_KernelTrue.j0 k t514 t518 t521 bt525.1 bt527.1 true a0_0 a0_1 a0_2 l0_3)) else (saronlaw06_KernelTrue.j0 k t514 t518 t521 bt525.1 bt527.1 true a0_0 a0_1 a0_2 l0_3)) else (saronlaw06_KernelTrue.j0 k t514 t518 t521 bt525.1 bt527.1 true a0_0 a0_1 a0_2 l0_3)) else (saronlaw06_KernelTrue.j0 k t514 t518 t521 bt525.1 bt527.1 true a0_0 a0_1 a0_2 l0_3))))) = some r := H
  have A8 := zh A80
  clear A80
  replace H := Option.bind_eq_some_iff.mp H
  obtain ⟨⟨t525, t526⟩, A90, H⟩ := H
  replace H : ((kernel_Filled.f a0_0 a0_1 a0_2 l0_3 t518).bind fun bt527 => ((kernel_Least.f a0_0 a0_1 a0_2 l0_3 t518).bind fun bt531 => (if t524 = true then (if t526 = 0 then (if bt527.2 = 0 then (if bt531.2 = 0 then (if t525 < 1 then (saronlaw06_KernelTrue.j0 k t514 t518 t521 t525 bt527.1 true a0_0 a0_1 a0_2 l0_3) else (if bt531.1 = 0 then (saronlaw06_KernelTrue.j0 k t514 t518 t521 t525 bt527.1 ((bt527.1.length : Int) != (t518.length : Int)) a0_0 a0_1 a0_2 l0_3) else (saronlaw06_KernelTrue.j0 k t514 t518 t521 t525 bt527.1 true a0_0 a0_1 a0_2 l0_3))) else (saronlaw06_KernelTrue.j0 k t514 t518 t521 t525 bt527.1 true a0_0 a0_1 a0_2 l0_3)) else (saronlaw06_KernelTrue.j0 k t514 t518 t521 t525 bt527.1 true a0_0 a0_1 a0_2 l0_3)) else (saronlaw06_KernelTrue.j0 k t514 t518 t521 t525 bt527.1 true a0_0 a0_1 a0_2 l0_3)) else (saronlaw06_KernelTrue.j0 k t514 t518 t521 t525 bt527.1 true a0_0 a0_1 a0_2 l0_3)))) = some r := H
  have A9 := zh A90
  clear A90
  replace H := Option.bind_eq_some_iff.mp H
  obtain ⟨⟨t527, t530⟩, A100, H⟩ := H
  replace H : ((kernel_Least.f a0_0 a0_1 a0_2 l0_3 t518).bind fun bt531 => (if t524 = true then (if t526 = 0 then (if t530 = 0 then (if bt531.2 = 0 then (if t525 < 1 then (saronlaw06_KernelTrue.j0 k t514 t518 t521 t525 t527 true a0_0 a0_1 a0_2 l0_3) else (if bt531.1 = 0 then (saronlaw06_KernelTrue.j0 k t514 t518 t521 t525 t527 ((t527.length : Int) != (t518.length : Int)) a0_0 a0_1 a0_2 l0_3) else (saronlaw06_KernelTrue.j0 k t514 t518 t521 t525 t527 true a0_0 a0_1 a0_2 l0_3))) else (saronlaw06_KernelTrue.j0 k t514 t518 t521 t525 t527 true a0_0 a0_1 a0_2 l0_3)) else (saronlaw06_KernelTrue.j0 k t514 t518 t521 t525 t527 true a0_0 a0_1 a0_2 l0_3)) else (saronlaw06_KernelTrue.j0 k t514 t518 t521 t525 t527 true a0_0 a0_1 a0_2 l0_3)) else (saronlaw06_KernelTrue.j0 k t514 t518 t521 t525 t527 true a0_0 a0_1 a0_2 l0_3))) = some r := H
  have A10 := zh A100
  clear A100
  replace H := Option.bind_eq_some_iff.mp H
  obtain ⟨⟨t531, t532⟩, A110, H⟩ := H
  replace H : (if t524 = true then (if t526 = 0 then (if t530 = 0 then (if t532 = 0 then (if t525 < 1 then (saronlaw06_KernelTrue.j0 k t514 t518 t521 t525 t527 true a0_0 a0_1 a0_2 l0_3) else (if t531 = 0 then (saronlaw06_KernelTrue.j0 k t514 t518 t521 t525 t527 ((t527.length : Int) != (t518.length : Int)) a0_0 a0_1 a0_2 l0_3) else (saronlaw06_KernelTrue.j0 k t514 t518 t521 t525 t527 true a0_0 a0_1 a0_2 l0_3))) else (saronlaw06_KernelTrue.j0 k t514 t518 t521 t525 t527 true a0_0 a0_1 a0_2 l0_3)) else (saronlaw06_KernelTrue.j0 k t514 t518 t521 t525 t527 true a0_0 a0_1 a0_2 l0_3)) else (saronlaw06_KernelTrue.j0 k t514 t518 t521 t525 t527 true a0_0 a0_1 a0_2 l0_3)) else (saronlaw06_KernelTrue.j0 k t514 t518 t521 t525 t527 true a0_0 a0_1 a0_2 l0_3)) = some r := H
  have A11 := zh A110
  clear A110
  have HC12 := zh H
  clear H
  go_enter Tryd.func7, Tryd.ntmps7
  try go_wp2_with (first | ((with_reducible refine gate_dst (N := 3) rfl ?_); (try (refine gate_guard (by rfl) ?_; dsimp only)); refine box_event ?hg (N := 3) ?hd (cs := #[.int .i64 a0_0, .int .i64 a0_1, .int .i64 a0_2, .slice A0_3 l0_3.length c0_3]) (t := 24) ?hr ?_; (case hd => rfl); (case hg => rfl); (case hr => first | (go_simp; done) | (go_simp; rfl)); intro gb511 hg w13 hbox hb; have n0_ := zh (below_step zb hb); have n1_ := zh (hbox); have n2_ := zh ((by rw [hg]; exact (below_size zb) : w.heap.size ≤ gb511)); have n3_ := zh ((by rw [hg]; exact (below_size zb) : w.heap.size ≤ gb511)); clear HB; have HB := n0_; have BK511 := n1_; have GW511 := n2_; have GE511 := n3_; clear n0_ n1_ n2_ n3_; clear hb hbox hg; have hcz14_0 : w13.cell? ⟨gb511, 0, none⟩ = some (.int .i64 a0_0) := vb BK511 0; have hcz14_1 : w13.cell? ⟨gb511, 1, none⟩ = some (.int .i64 a0_1) := vb BK511 1; have hcz14_2 : w13.cell? ⟨gb511, 2, none⟩ = some (.int .i64 a0_2) := vb BK511 2; have hcz14_3 : w13.cell? ⟨gb511, 3, none⟩ = some (.slice A0_3 l0_3.length c0_3) := vb BK511 3; have hfz14_0 := blk_frozen BK511.out 0; have hfz14_1 := blk_frozen BK511.out 1; have hfz14_2 := blk_frozen BK511.out 2; have hfz14_3 := blk_frozen BK511.out 3) | ((with_reducible refine gate_callee (f := 39) rfl ?_); refine goesL_ (some 24) rfl rfl Tryd.func39 zk rfl #[.agg #[.int .i64 a0_0, .int .i64 a0_1, .int .i64 a0_2, .slice A0_3 l0_3.length c0_3]] rfl zm ?_; (with_reducible refine (saronlaw06_sound.calls k a0_0 a0_1 a0_2 _ _ l0_3 true _ ?side1 ?side2 A4.out).mono ?_); (case side1 => repeat (first | exact (Kd.C_below HR0_3.out HB.out) | (with_reducible refine Kd.C_alloc ?_ _) | (with_reducible refine Kd.C_drewN ?_ _) | (with_reducible refine Kd.C_drew ?_))); (case side2 => exact HC0_3.out); rintro e w15 ⟨rfl, hb⟩; refine ⟨_, rfl, ?_⟩; have n0_ := zh (blk_below (g := gb511) (o := .cells #[.int .i64 a0_0, .int .i64 a0_1, .int .i64 a0_2, .slice A0_3 l0_3.length c0_3] 24 (0, 0)) (zc BK511) hb); have n1_ := zh (below_step zb hb); clear BK511; clear HB; have BK511 := n0_; have HB := n1_; clear n0_ n1_; (try clear hb); (try clear hb2); (try clear hk); (try clear hi); have hcz16_0 : w15.cell? ⟨gb511, 0, none⟩ = some (.int .i64 a0_0) := vb BK511 0; have hcz16_1 : w15.cell? ⟨gb511, 1, none⟩ = some (.int .i64 a0_1) := vb BK511 1; have hcz16_2 : w15.cell? ⟨gb511, 2, none⟩ = some (.int .i64 a0_2) := vb BK511 2; have hcz16_3 : w15.cell? ⟨gb511, 3, none⟩ = some (.slice A0_3 l0_3.length c0_3) := vb BK511 3; have hfz16_0 := blk_frozen BK511.out 0; have hfz16_1 := blk_frozen BK511.out 1; have hfz16_2 := blk_frozen BK511.out 2; have hfz16_3 := blk_frozen BK511.out 3) | ((with_reducible refine gate_callee (f := 40) rfl ?_); refine goesL_ (some 29) rfl rfl Tryd.func40 zk rfl #[.agg #[.int .i64 a0_0, .int .i64 a0_1, .int .i64 a0_2, .slice A0_3 l0_3.length c0_3], .slice A1 l1.length c1] rfl zm ?_; (with_reducible refine (saronlaw06_truly.calls k a0_0 a0_1 a0_2 _ _ l0_3 _ _ l1 t514 _ ?side1 ?side2 ?side3 ?side4 A6.out).mono ?_); (case side1 => repeat (first | exact (Kd.C_below HR0_3.out HB.out) | (with_reducible refine Kd.C_alloc ?_ _) | (with_reducible refine Kd.C_drewN ?_ _) | (with_reducible refine Kd.C_drew ?_))); (case side2 => exact HC0_3.out); (case side3 => repeat (first | exact (Kd.C_below HR1.out HB.out) | (with_reducible refine Kd.C_alloc ?_ _) | (with_reducible refine Kd.C_drewN ?_ _) | (with_reducible refine Kd.C_drew ?_))); (case side4 => exact HC1.out); rintro e w17 ⟨v515, rfl, ho0, hb⟩; refine ⟨_, rfl, ?_⟩; have n0_ := zh (Kd.R_lower ho0 (below_size zb)); have n1_ := zh (blk_below (g := gb511) (o := .cells #[.int .i64 a0_0, .int .i64 a0_1, .int .i64 a0_2, .slice A0_3 l0_3.length c0_3] 24 (0, 0)) (zc BK511) hb); have n2_ := zh (below_step zb hb); clear BK511; clear HB; have HO516 := n0_; have BK511 := n1_; have HB := n2_; clear n0_ n1_ n2_; (try clear hb); (try clear hb2); (try clear hk); (try clear hi); (try clear ho0)))
  replace HO516 := zh (Kd.R_drew HO516.out)
  replace BK511 := zh (blk_drew BK511.out)
  replace HB := zh (below_drew1 HB.out)
  refine start_ (n := 14) (S := fun w' => w'.cell? ⟨gb511, 0, none⟩ = some (.int .i64 a0_0) ∧ w'.cell? ⟨gb511, 1, none⟩ = some (.int .i64 a0_1) ∧ w'.cell? ⟨gb511, 2, none⟩ = some (.int .i64 a0_2) ∧ w'.cell? ⟨gb511, 3, none⟩ = some (.slice A0_3 l0_3.length c0_3)) (ds := []) (Array.replicate 14 false) zk rfl rfl ⟨vb BK511 0, vb BK511 1, vb BK511 2, vb BK511 3⟩ (fun hHeld => ?_); refine with_tabW saronlaw06_KernelTrue.tab4 saronlaw06_KernelTrue.bits4 (fun HT_ HW_ => ?_)
  generalize w17.drew = w18 at HO516 BK511 HB hHeld ⊢
  refine zu 1 ?_
  refine zu 2 ?_
  refine zu 3 ?_
  refine zt 0 ?_
  refine zo 4 (fun K hK => ?_)
  refine goes_ Tryd.func42 zk rfl #[.int .i64 a2, .int .i64 5] (by rfl) rfl rfl zm ?_
  with_reducible refine (saronref00_Turn.calls a2 5 t517 _ A7.out).mono ?_
  rintro e w' ⟨rfl, ⟨nd, rfl⟩⟩
  refine ⟨_, rfl, ?_⟩
  obtain ⟨Ao19, co19, eo19⟩ := Kd.R_slice HO516.out
  (first | subst eo19 | (injection eo19 with f1_ f2_ f3_; have f4_ := f1_.symm; have f5_ := f3_.symm; clear f1_ f2_ f3_; subst f4_; subst f5_))
  refine hK.out _ _ ⟨vb BK511 0, vb BK511 1, vb BK511 2, vb BK511 3⟩ (fun hHeld => ?_)
  clear hK K
  refine zr 35 _ ?_
  refine zu 5 ?_
  refine zo 6 (fun K hK => ?_)
  refine goes_ Tryd.func41 zk rfl #[.agg #[.int .i64 a0_0, .int .i64 a0_1, .int .i64 a0_2, .slice A0_3 l0_3.length c0_3], .slice Ao19 t514.length co19, .slice A1 l1.length c1, .int .i64 (wrap64 (1 + t517))] (by rfl) rfl rfl zm ?_
  with_reducible refine (saronlaw06_listened.calls k a0_0 a0_1 a0_2 _ _ l0_3 _ _ t514 _ _ l1 (wrap64 (1 + t517)) t518 t521 t524 _ ?side1 ?side2 ?side3 ?side4 ?side5 ?side6 ?side7 A8.out).mono ?_
  (case side1 => repeat (first | exact (Kd.C_below HR0_3.out zb) | (with_reducible refine Kd.C_alloc ?_ _) | (with_reducible refine Kd.C_drewN ?_ _) | (with_reducible refine Kd.C_drew ?_)))
  (case side2 => exact HC0_3.out)
  (case side3 => repeat (first | exact (Kd.R_reads' HO516.out).2.2 | (with_reducible refine Kd.C_alloc ?_ _) | (with_reducible refine Kd.C_drewN ?_ _) | (with_reducible refine Kd.C_drew ?_)))
  (case side4 => exact (Kd.R_reads' HO516.out).2.1)
  (case side5 => repeat (first | exact (Kd.C_below HR1.out zb) | (with_reducible refine Kd.C_alloc ?_ _) | (with_reducible refine Kd.C_drewN ?_ _) | (with_reducible refine Kd.C_drew ?_)))
  (case side6 => exact HC1.out)
  (case side7 => exact Glob.below HG.out zb)
  rintro e w20 ⟨v519, v522, rfl, ho0, ho1, hb⟩
  refine ⟨_, rfl, ?_⟩
  have HO520 := zh (Kd.N_lower (Kd.N_mono (ok' := fun k_ => some k_ ≠ (v522 : Value).ownBlock ∧ some k_ ≠ (.slice Ao19 t514.length co19 : Value).ownBlock ∧ k_ ≠ gb511) ho0 (fun k_ hk_ => ⟨hk_.2, (Kd.fresh' (Kd.R_lt (zR HO516)) k_ hk_.1), (Kd.freshB (g := gb511) (o := .cells #[.int .i64 a0_0, .int .i64 a0_1, .int .i64 a0_2, .slice A0_3 l0_3.length c0_3] 24 (0, 0)) (zc BK511) k_ hk_.1)⟩)) (below_size zb))
  have HO523 := zh (Kd.N_lower (Kd.N_mono (ok' := fun k_ => some k_ ≠ (v519 : Value).ownBlock ∧ some k_ ≠ (.slice Ao19 t514.length co19 : Value).ownBlock ∧ k_ ≠ gb511) ho1 (fun k_ hk_ => ⟨hk_.2, (Kd.fresh' (Kd.R_lt (zR HO516)) k_ hk_.1), (Kd.freshB (g := gb511) (o := .cells #[.int .i64 a0_0, .int .i64 a0_1, .int .i64 a0_2, .slice A0_3 l0_3.length c0_3] 24 (0, 0)) (zc BK511) k_ hk_.1)⟩)) (below_size zb))
  replace HO516 := zh (Kd.R_below (zR HO516) hb)
  replace BK511 := zh (blk_below (g := gb511) (o := .cells #[.int .i64 a0_0, .int .i64 a0_1, .int .i64 a0_2, .slice A0_3 l0_3.length c0_3] 24 (0, 0)) (zc BK511) hb)
  replace HB := zh (below_step zb hb)
  (try clear hb)
  (try clear hb2)
  (try clear hk)
  (try clear hi)
  (try clear ho0)
  (try clear ho1)
  refine hK.out _ _ ⟨vb BK511 0, vb BK511 1, vb BK511 2, vb BK511 3⟩ (fun hHeld => ?_)
  clear hK K
  refine zr 37 _ ?_
  refine zu 7 ?_
  refine zu 8 ?_
  refine zu 9 ?_
  refine zu 10 ?_
  refine zu 11 ?_
  refine zu 12 ?_
  refine zu 13 ?_
  refine zd ?_
  have hcz21_0 : w20.cell? ⟨gb511, 0, none⟩ = some (.int .i64 a0_0) := vb BK511 0
  have hcz21_1 : w20.cell? ⟨gb511, 1, none⟩ = some (.int .i64 a0_1) := vb BK511 1
  have hcz21_2 : w20.cell? ⟨gb511, 2, none⟩ = some (.int .i64 a0_2) := vb BK511 2
  have hcz21_3 : w20.cell? ⟨gb511, 3, none⟩ = some (.slice A0_3 l0_3.length c0_3) := vb BK511 3
  have hfz21_0 := blk_frozen BK511.out 0
  have hfz21_1 := blk_frozen BK511.out 1
  have hfz21_2 := blk_frozen BK511.out 2
  have hfz21_3 := blk_frozen BK511.out 3
  obtain ⟨Ao22, co22, eo22⟩ := Kd.N_slice HO520.out
  subst eo22
  go_upto_region 8 with (first | ((with_reducible refine gate_callee (f := 22) rfl ?_); refine goesL_ (some 44) rfl rfl Tryd.func22 zk rfl #[.agg #[.int .i64 a0_0, .int .i64 a0_1, .int .i64 a0_2, .slice A0_3 l0_3.length c0_3], .slice Ao22 t518.length co22] rfl zm ?_; (with_reducible refine (kernel_Many.calls a0_0 a0_1 a0_2 _ _ l0_3 _ _ t518 t525 t526 _ ?side1 ?side2 ?side3 ?side4 ?side5 A9.out).mono ?_); (case side1 => repeat (first | exact (Kd.C_below HR0_3.out HB.out) | (with_reducible refine Kd.C_alloc ?_ _) | (with_reducible refine Kd.C_drewN ?_ _) | (with_reducible refine Kd.C_drew ?_))); (case side2 => exact HC0_3.out); (case side3 => repeat (first | exact (Kd.N_reads' HO520.out).2.2 | (with_reducible refine Kd.C_alloc ?_ _) | (with_reducible refine Kd.C_drewN ?_ _) | (with_reducible refine Kd.C_drew ?_))); (case side4 => exact (Kd.N_reads' HO520.out).2.1); (case side5 => exact Glob.below HG.out zb); rintro e w23 ⟨rfl, hb⟩; refine ⟨_, rfl, ?_⟩; have n0_ := zh (Kd.R_below (zR HO516) hb); have n1_ := zh (Kd.N_below (zN HO520) hb); have n2_ := zh (Kd.N_below (zN HO523) hb); have n3_ := zh (blk_below (g := gb511) (o := .cells #[.int .i64 a0_0, .int .i64 a0_1, .int .i64 a0_2, .slice A0_3 l0_3.length c0_3] 24 (0, 0)) (zc BK511) hb); have n4_ := zh (below_step zb hb); clear HO516; clear HO520; clear HO523; clear BK511; clear HB; have HO516 := n0_; have HO520 := n1_; have HO523 := n2_; have BK511 := n3_; have HB := n4_; clear n0_ n1_ n2_ n3_ n4_; (try clear hb); (try clear hb2); (try clear hk); (try clear hi); have hcz24_0 : w23.cell? ⟨gb511, 0, none⟩ = some (.int .i64 a0_0) := vb BK511 0; have hcz24_1 : w23.cell? ⟨gb511, 1, none⟩ = some (.int .i64 a0_1) := vb BK511 1; have hcz24_2 : w23.cell? ⟨gb511, 2, none⟩ = some (.int .i64 a0_2) := vb BK511 2; have hcz24_3 : w23.cell? ⟨gb511, 3, none⟩ = some (.slice A0_3 l0_3.length c0_3) := vb BK511 3; have hfz24_0 := blk_frozen BK511.out 0; have hfz24_1 := blk_frozen BK511.out 1; have hfz24_2 := blk_frozen BK511.out 2; have hfz24_3 := blk_frozen BK511.out 3) | ((with_reducible refine gate_callee (f := 28) rfl ?_); refine goesL_ (some 50) rfl rfl Tryd.func28 zk rfl #[.agg #[.int .i64 a0_0, .int .i64 a0_1, .int .i64 a0_2, .slice A0_3 l0_3.length c0_3], .slice Ao22 t518.length co22] rfl zm ?_; (with_reducible refine (kernel_Filled.calls a0_0 a0_1 a0_2 _ _ l0_3 _ _ t518 t527 t530 _ ?side1 ?side2 ?side3 ?side4 ?side5 A10.out).mono ?_); (case side1 => repeat (first | exact (Kd.C_below HR0_3.out HB.out) | (with_reducible refine Kd.C_alloc ?_ _) | (with_reducible refine Kd.C_drewN ?_ _) | (with_reducible refine Kd.C_drew ?_))); (case side2 => exact HC0_3.out); (case side3 => repeat (first | exact (Kd.N_reads' HO520.out).2.2 | (with_reducible refine Kd.C_alloc ?_ _) | (with_reducible refine Kd.C_drewN ?_ _) | (with_reducible refine Kd.C_drew ?_))); (case side4 => exact (Kd.N_reads' HO520.out).2.1); (case side5 => exact Glob.below HG.out zb); rintro e w25 ⟨v528, rfl, ho0, hb⟩; refine ⟨_, rfl, ?_⟩; have n0_ := zh (Kd.R_below (zR HO516) hb); have n1_ := zh (Kd.N_below (zN HO520) hb); have n2_ := zh (Kd.N_below (zN HO523) hb); have n3_ := zh (Kd.V_lower (Kd.V_mono (ok' := fun k_ => some k_ ≠ (.slice Ao19 t514.length co19 : Value).ownBlock ∧ some k_ ≠ (.slice Ao22 t518.length co22 : Value).ownBlock ∧ some k_ ≠ (v522 : Value).ownBlock ∧ k_ ≠ gb511) ho0 (fun k_ hk_ => ⟨(Kd.fresh' (Kd.R_lt (zR HO516)) k_ hk_), (Kd.fresh' (Kd.N_lt (zN HO520)) k_ hk_), (Kd.fresh' (Kd.N_lt (zN HO523)) k_ hk_), (Kd.freshB (g := gb511) (o := .cells #[.int .i64 a0_0, .int .i64 a0_1, .int .i64 a0_2, .slice A0_3 l0_3.length c0_3] 24 (0, 0)) (zc BK511) k_ hk_)⟩)) (below_size zb)); have n4_ := zh (blk_below (g := gb511) (o := .cells #[.int .i64 a0_0, .int .i64 a0_1, .int .i64 a0_2, .slice A0_3 l0_3.length c0_3] 24 (0, 0)) (zc BK511) hb); have n5_ := zh (below_step zb hb); clear HO516; clear HO520; clear HO523; clear BK511; clear HB; have HO516 := n0_; have HO520 := n1_; have HO523 := n2_; have HO529 := n3_; have BK511 := n4_; have HB := n5_; clear n0_ n1_ n2_ n3_ n4_ n5_; (try clear hb); (try clear hb2); (try clear hk); (try clear hi); (try clear ho0); have hcz26_0 : w25.cell? ⟨gb511, 0, none⟩ = some (.int .i64 a0_0) := vb BK511 0; have hcz26_1 : w25.cell? ⟨gb511, 1, none⟩ = some (.int .i64 a0_1) := vb BK511 1; have hcz26_2 : w25.cell? ⟨gb511, 2, none⟩ = some (.int .i64 a0_2) := vb BK511 2; have hcz26_3 : w25.cell? ⟨gb511, 3, none⟩ = some (.slice A0_3 l0_3.length c0_3) := vb BK511 3; have hfz26_0 := blk_frozen BK511.out 0; have hfz26_1 := blk_frozen BK511.out 1; have hfz26_2 := blk_frozen BK511.out 2; have hfz26_3 := blk_frozen BK511.out 3) | ((with_reducible refine gate_callee (f := 31) rfl ?_); refine goesL_ (some 56) rfl rfl Tryd.func31 zk rfl #[.agg #[.int .i64 a0_0, .int .i64 a0_1, .int .i64 a0_2, .slice A0_3 l0_3.length c0_3], .slice Ao22 t518.length co22] rfl zm ?_; (with_reducible refine (kernel_Least.calls a0_0 a0_1 a0_2 _ _ l0_3 _ _ t518 t531 t532 _ ?side1 ?side2 ?side3 ?side4 ?side5 A11.out).mono ?_); (case side1 => repeat (first | exact (Kd.C_below HR0_3.out HB.out) | (with_reducible refine Kd.C_alloc ?_ _) | (with_reducible refine Kd.C_drewN ?_ _) | (with_reducible refine Kd.C_drew ?_))); (case side2 => exact HC0_3.out); (case side3 => repeat (first | exact (Kd.N_reads' HO520.out).2.2 | (with_reducible refine Kd.C_alloc ?_ _) | (with_reducible refine Kd.C_drewN ?_ _) | (with_reducible refine Kd.C_drew ?_))); (case side4 => exact (Kd.N_reads' HO520.out).2.1); (case side5 => exact Glob.below HG.out zb); rintro e w27 ⟨rfl, hb⟩; refine ⟨_, rfl, ?_⟩; have n0_ := zh (Kd.R_below (zR HO516) hb); have n1_ := zh (Kd.N_below (zN HO520) hb); have n2_ := zh (Kd.N_below (zN HO523) hb); have n3_ := zh (Kd.V_below (zV HO529) hb); have n4_ := zh (blk_below (g := gb511) (o := .cells #[.int .i64 a0_0, .int .i64 a0_1, .int .i64 a0_2, .slice A0_3 l0_3.length c0_3] 24 (0, 0)) (zc BK511) hb); have n5_ := zh (below_step zb hb); clear HO516; clear HO520; clear HO523; clear HO529; clear BK511; clear HB; have HO516 := n0_; have HO520 := n1_; have HO523 := n2_; have HO529 := n3_; have BK511 := n4_; have HB := n5_; clear n0_ n1_ n2_ n3_ n4_ n5_; (try clear hb); (try clear hb2); (try clear hk); (try clear hi)))
  (try simp only [Act.put, List.setIfInBounds_toArray, List.set_cons_zero, List.set_cons_succ])
  go_cut [87] (fun v87 wc => ∃ (kq : Nat) (x87_11 : Bool), v87 = .bool x87_11 ∧ Aside0 (saronlaw06_KernelTrue.j0 kq t514 t518 t521 t525 t527 x87_11 a0_0 a0_1 a0_2 l0_3 = some r) ∧ Aside0 (kq ≤ k) ∧ Aside0 (Kd.R (Kd.int .i64) 3 wc w.heap.size (fun _ => True) (.slice Ao19 t514.length co19) t514) ∧ Aside0 (Kd.N k60 60 wc w.heap.size (fun k_ => some k_ ≠ ((.slice Ao19 t514.length co19) : Value).ownBlock ∧ some k_ ≠ (v522 : Value).ownBlock ∧ k_ ≠ gb511) (.slice Ao22 t518.length co22) t518) ∧ Aside0 (Kd.N (Kd.slice 3 (Kd.int .i64)) 25 wc w.heap.size (fun k_ => some k_ ≠ ((.slice Ao19 t514.length co19) : Value).ownBlock ∧ some k_ ≠ ((.slice Ao22 t518.length co22) : Value).ownBlock ∧ k_ ≠ gb511) v522 t521) ∧ Aside0 (Kd.V (Kd.slice 3 (Kd.int .i64)) 25 wc w.heap.size (fun k_ => some k_ ≠ ((.slice Ao19 t514.length co19) : Value).ownBlock ∧ some k_ ≠ ((.slice Ao22 t518.length co22) : Value).ownBlock ∧ some k_ ≠ (v522 : Value).ownBlock ∧ k_ ≠ gb511) v528 t527) ∧ Aside0 (wc.heap[gb511]? = some (.cells #[.int .i64 a0_0, .int .i64 a0_1, .int .i64 a0_2, (.slice A0_3 l0_3.length c0_3)] 24 (0, 0))) ∧ Aside0 (Below w.heap.size w wc))
  case first =>
   as_aux_lemma =>
    have H := HC12.out
    clear HC12
    by_cases c28 : t524 = true
    ·subst c28
     have H1 : (if t526 = 0 then (if t530 = 0 then (if t532 = 0 then (if t525 < 1 then (saronlaw06_KernelTrue.j0 k t514 t518 t521 t525 t527 true a0_0 a0_1 a0_2 l0_3) else (if t531 = 0 then (saronlaw06_KernelTrue.j0 k t514 t518 t521 t525 t527 ((t527.length : Int) != (t518.length : Int)) a0_0 a0_1 a0_2 l0_3) else (saronlaw06_KernelTrue.j0 k t514 t518 t521 t525 t527 true a0_0 a0_1 a0_2 l0_3))) else (saronlaw06_KernelTrue.j0 k t514 t518 t521 t525 t527 true a0_0 a0_1 a0_2 l0_3)) else (saronlaw06_KernelTrue.j0 k t514 t518 t521 t525 t527 true a0_0 a0_1 a0_2 l0_3)) else (saronlaw06_KernelTrue.j0 k t514 t518 t521 t525 t527 true a0_0 a0_1 a0_2 l0_3)) = some r := by rw [if_pos rfl] at H; exact H
     clear H
     have H := H1
     clear H1
     by_cases c29 : t526 = 0
     ·rw [if_pos c29] at H
      have c29b0 : (t526 == 0) = true := beq_iff_eq.mpr c29
      have c29b1 : (t526 != 0) = false := bne_eq_false_iff_eq.mpr c29
      clear c29
      (first | rw [c29b0] | (simp only [i64_w, i32_w]; rw [c29b0]) | skip)
      by_cases c30 : t530 = 0
      ·rw [if_pos c30] at H
       have c30b0 : (t530 == 0) = true := beq_iff_eq.mpr c30
       have c30b1 : (t530 != 0) = false := bne_eq_false_iff_eq.mpr c30
       clear c30
       by_cases c31 : t532 = 0
       ·rw [if_pos c31] at H
        have c31b0 : (t532 == 0) = true := beq_iff_eq.mpr c31
        have c31b1 : (t532 != 0) = false := bne_eq_false_iff_eq.mpr c31
        clear c31
        by_cases c32 : t525 < 1
        ·rw [if_pos c32] at H
         have c32b0 : decide (t525 < 1) = true := decide_eq_true c32
         clear c32
         have H' := zh H
         clear H
         go_wp2
         go_meet
         case rel => exact ⟨_, (true), ze, H', ⟨zo1⟩, ⟨zR HO516⟩, ⟨by (with_reducible repeat (first | apply Kd.N_alloc | apply Kd.N_drewN | apply Kd.N_drew)); exact Kd.N_mono HO520.out (fun _ hk => ⟨hk.2.1, ⟨hk.1, hk.2.2⟩⟩)⟩, ⟨by (with_reducible repeat (first | apply Kd.N_alloc | apply Kd.N_drewN | apply Kd.N_drew)); exact Kd.N_mono HO523.out (fun _ hk => ⟨hk.2.1, ⟨hk.1, hk.2.2⟩⟩)⟩, ⟨zV HO529⟩, ⟨zc BK511⟩, ⟨zb⟩⟩
        ·rw [if_neg c32] at H
         have c32b0 : decide (t525 < 1) = false := decide_eq_false c32
         clear c32
         by_cases c33 : t531 = 0
         ·rw [if_pos c33] at H
          have c33b0 : (t531 == 0) = true := beq_iff_eq.mpr c33
          have c33b1 : (t531 != 0) = false := bne_eq_false_iff_eq.mpr c33
          clear c33
          have H' := zh H
          clear H
          obtain ⟨Ao34, co34, eo34⟩ := Kd.V_slice HO529.out
          subst eo34
          go_wp2
          go_meet
          case rel => exact ⟨_, (((t527.length : Int) != (t518.length : Int))), ze, H', ⟨zo1⟩, ⟨zR HO516⟩, ⟨by (with_reducible repeat (first | apply Kd.N_alloc | apply Kd.N_drewN | apply Kd.N_drew)); exact Kd.N_mono HO520.out (fun _ hk => ⟨hk.2.1, ⟨hk.1, hk.2.2⟩⟩)⟩, ⟨by (with_reducible repeat (first | apply Kd.N_alloc | apply Kd.N_drewN | apply Kd.N_drew)); exact Kd.N_mono HO523.out (fun _ hk => ⟨hk.2.1, ⟨hk.1, hk.2.2⟩⟩)⟩, ⟨zV HO529⟩, ⟨zc BK511⟩, ⟨zb⟩⟩
         ·rw [if_neg c33] at H
          have c33b0 : (t531 == 0) = false := beq_eq_false_iff_ne.mpr c33
          have c33b1 : (t531 != 0) = true := bne_iff_ne.mpr c33
          have H' := zh H
          clear H
          go_wp2
          go_meet
          case rel => exact ⟨_, (true), ze, H', ⟨zo1⟩, ⟨zR HO516⟩, ⟨by (with_reducible repeat (first | apply Kd.N_alloc | apply Kd.N_drewN | apply Kd.N_drew)); exact Kd.N_mono HO520.out (fun _ hk => ⟨hk.2.1, ⟨hk.1, hk.2.2⟩⟩)⟩, ⟨by (with_reducible repeat (first | apply Kd.N_alloc | apply Kd.N_drewN | apply Kd.N_drew)); exact Kd.N_mono HO523.out (fun _ hk => ⟨hk.2.1, ⟨hk.1, hk.2.2⟩⟩)⟩, ⟨zV HO529⟩, ⟨zc BK511⟩, ⟨zb⟩⟩
       ·rw [if_neg c31] at H
        have c31b0 : (t532 == 0) = false := beq_eq_false_iff_ne.mpr c31
        have c31b1 : (t532 != 0) = true := bne_iff_ne.mpr c31
        have H' := zh H
        clear H
        go_wp2
        go_meet
        case rel => exact ⟨_, (true), ze, H', ⟨zo1⟩, ⟨zR HO516⟩, ⟨by (with_reducible repeat (first | apply Kd.N_alloc | apply Kd.N_drewN | apply Kd.N_drew)); exact Kd.N_mono HO520.out (fun _ hk => ⟨hk.2.1, ⟨hk.1, hk.2.2⟩⟩)⟩, ⟨by (with_reducible repeat (first | apply Kd.N_alloc | apply Kd.N_drewN | apply Kd.N_drew)); exact Kd.N_mono HO523.out (fun _ hk => ⟨hk.2.1, ⟨hk.1, hk.2.2⟩⟩)⟩, ⟨zV HO529⟩, ⟨zc BK511⟩, ⟨zb⟩⟩
      ·rw [if_neg c30] at H
       have c30b0 : (t530 == 0) = false := beq_eq_false_iff_ne.mpr c30
       have c30b1 : (t530 != 0) = true := bne_iff_ne.mpr c30
       have H' := zh H
       clear H
       go_wp2
       go_meet
       case rel => exact ⟨_, (true), ze, H', ⟨zo1⟩, ⟨zR HO516⟩, ⟨by (with_reducible repeat (first | apply Kd.N_alloc | apply Kd.N_drewN | apply Kd.N_drew)); exact Kd.N_mono HO520.out (fun _ hk => ⟨hk.2.1, ⟨hk.1, hk.2.2⟩⟩)⟩, ⟨by (with_reducible repeat (first | apply Kd.N_alloc | apply Kd.N_drewN | apply Kd.N_drew)); exact Kd.N_mono HO523.out (fun _ hk => ⟨hk.2.1, ⟨hk.1, hk.2.2⟩⟩)⟩, ⟨zV HO529⟩, ⟨zc BK511⟩, ⟨zb⟩⟩
     ·rw [if_neg c29] at H
      have c29b0 : (t526 == 0) = false := beq_eq_false_iff_ne.mpr c29
      have c29b1 : (t526 != 0) = true := bne_iff_ne.mpr c29
      (first | rw [c29b0] | (simp only [i64_w, i32_w]; rw [c29b0]) | skip)
      have H' := zh H
      clear H
      go_wp2
      go_meet
      case rel => exact ⟨_, (true), ze, H', ⟨zo1⟩, ⟨zR HO516⟩, ⟨by (with_reducible repeat (first | apply Kd.N_alloc | apply Kd.N_drewN | apply Kd.N_drew)); exact Kd.N_mono HO520.out (fun _ hk => ⟨hk.2.1, ⟨hk.1, hk.2.2⟩⟩)⟩, ⟨by (with_reducible repeat (first | apply Kd.N_alloc | apply Kd.N_drewN | apply Kd.N_drew)); exact Kd.N_mono HO523.out (fun _ hk => ⟨hk.2.1, ⟨hk.1, hk.2.2⟩⟩)⟩, ⟨zV HO529⟩, ⟨zc BK511⟩, ⟨zb⟩⟩
    ·replace c28 := Bool.eq_false_iff.mpr c28
     subst c28
     have H1 : (saronlaw06_KernelTrue.j0 k t514 t518 t521 t525 t527 true a0_0 a0_1 a0_2 l0_3) = some r := by rw [if_neg (show ¬ (false = true) by decide)] at H; exact H
     clear H
     have H := H1
     clear H1
     have H' := zh H
     clear H
     go_wp2
     go_meet
     case rel => exact ⟨_, (true), ze, H', ⟨zo1⟩, ⟨zR HO516⟩, ⟨by (with_reducible repeat (first | apply Kd.N_alloc | apply Kd.N_drewN | apply Kd.N_drew)); exact Kd.N_mono HO520.out (fun _ hk => ⟨hk.2.1, ⟨hk.1, hk.2.2⟩⟩)⟩, ⟨by (with_reducible repeat (first | apply Kd.N_alloc | apply Kd.N_drewN | apply Kd.N_drew)); exact Kd.N_mono HO523.out (fun _ hk => ⟨hk.2.1, ⟨hk.1, hk.2.2⟩⟩)⟩, ⟨zV HO529⟩, ⟨zc BK511⟩, ⟨zb⟩⟩
  case rest =>
   as_aux_lemma =>
    clear HC12
    try clear c1
    try clear c2
    try clear p2
    try clear c3
    try clear c4
    try clear c5
    try clear p6
    try clear c7
    try clear c22
    try clear c28
    try clear c29
    try clear c29b0
    try clear c29b1
    try clear c30
    try clear c30b0
    try clear c30b1
    try clear c31
    try clear c31b0
    try clear c31b1
    try clear c32
    try clear c32b0
    try clear c33
    try clear c33b0
    try clear c33b1
    try clear hcz14_0
    try clear hcz14_1
    try clear hcz14_2
    try clear hcz14_3
    try clear hcz16_0
    try clear hcz16_1
    try clear hcz16_2
    try clear hcz16_3
    try clear hcz21_0
    try clear hcz21_1
    try clear hcz21_2
    try clear hcz21_3
    try clear hcz24_0
    try clear hcz24_1
    try clear hcz24_2
    try clear hcz24_3
    try clear hcz26_0
    try clear hcz26_1
    try clear hcz26_2
    try clear hcz26_3
    try clear hfz14_0
    try clear hfz14_1
    try clear hfz14_2
    try clear hfz14_3
    try clear hfz16_0
    try clear hfz16_1
    try clear hfz16_2
    try clear hfz16_3
    try clear hfz21_0
    try clear hfz21_1
    try clear hfz21_2
    try clear hfz21_3
    try clear hfz24_0
    try clear hfz24_1
    try clear hfz24_2
    try clear hfz24_3
    try clear hfz26_0
    try clear hfz26_1
    try clear hfz26_2
    try clear hfz26_3
    obtain ⟨kq, x87_11, rfl, HA, HJ11, HO_7, HO_8, HO_9, HO_13, BK511, HB⟩ := hcut
    cases kq with
    | zero => exact absurd HA.out (by simp [saronlaw06_KernelTrue.j0])
    | succ kj11 =>
     have H := HA.out
     clear HA
     simp only [saronlaw06_KernelTrue.j0] at H
     by_cases c35 : x87_11 = true
     ·subst c35
      have H1 : (some false) = some r := by rw [if_pos rfl] at H; exact H
      clear H
      have H := H1
      clear H1
      obtain rfl := Option.some.inj H
      go_wp2
      go_ret
      exact ⟨zf, zb⟩
     ·replace c35 := Bool.eq_false_iff.mpr c35
      subst c35
      have H1 : (saronlaw06_KernelTrue.l0 kj11 t514 t518 t521 t525 t527 0 a0_0 a0_1 a0_2 l0_3) = some r := by rw [if_neg (show ¬ (false = true) by decide)] at H; exact H
      clear H
      have H := H1
      clear H1
      have H' := zh H
      clear H
      go_wp2
      go_loopg [17] kj11 (fun kq v17 w' => ∃ (x17_2 : Int), v17 = .int .i64 x17_2 ∧ Aside0 (saronlaw06_KernelTrue.l0 kq t514 t518 t521 t525 t527 x17_2 a0_0 a0_1 a0_2 l0_3 = some r) ∧ Aside0 (kq ≤ kj11) ∧ Aside0 (Kd.R (Kd.int .i64) 3 w' w.heap.size (fun _ => True) (.slice Ao19 t514.length co19) t514) ∧ Aside0 (Kd.N k60 60 w' w.heap.size (fun k_ => some k_ ≠ ((.slice Ao19 t514.length co19) : Value).ownBlock ∧ some k_ ≠ (v522 : Value).ownBlock ∧ k_ ≠ gb511) (.slice Ao22 t518.length co22) t518) ∧ Aside0 (Kd.N (Kd.slice 3 (Kd.int .i64)) 25 w' w.heap.size (fun k_ => some k_ ≠ ((.slice Ao19 t514.length co19) : Value).ownBlock ∧ some k_ ≠ ((.slice Ao22 t518.length co22) : Value).ownBlock ∧ k_ ≠ gb511) v522 t521) ∧ Aside0 (Kd.V (Kd.slice 3 (Kd.int .i64)) 25 w' w.heap.size (fun k_ => some k_ ≠ ((.slice Ao19 t514.length co19) : Value).ownBlock ∧ some k_ ≠ ((.slice Ao22 t518.length co22) : Value).ownBlock ∧ some k_ ≠ (v522 : Value).ownBlock ∧ k_ ≠ gb511) v528 t527) ∧ Aside0 (w'.heap[gb511]? = some (.cells #[.int .i64 a0_0, .int .i64 a0_1, .int .i64 a0_2, (.slice A0_3 l0_3.length c0_3)] 24 (0, 0))) ∧ Aside0 (Below w.heap.size w w'))
      case atStart => exact ⟨(0), ze, H', ⟨Nat.le_refl _⟩, ⟨zR HO_7⟩, ⟨zN HO_8⟩, ⟨zN HO_9⟩, ⟨zV HO_13⟩, ⟨zc BK511⟩, ⟨zb⟩⟩
      case round =>
       as_aux_lemma =>
        clear H'
        try clear c1
        try clear c2
        try clear p2
        try clear c3
        try clear c4
        try clear c5
        try clear p6
        try clear c7
        try clear c22
        try clear c28
        try clear c29
        try clear c29b0
        try clear c29b1
        try clear c30
        try clear c30b0
        try clear c30b1
        try clear c31
        try clear c31b0
        try clear c31b1
        try clear c32
        try clear c32b0
        try clear c33
        try clear c33b0
        try clear c33b1
        try clear c35
        try clear hcz14_0
        try clear hcz14_1
        try clear hcz14_2
        try clear hcz14_3
        try clear hcz16_0
        try clear hcz16_1
        try clear hcz16_2
        try clear hcz16_3
        try clear hcz21_0
        try clear hcz21_1
        try clear hcz21_2
        try clear hcz21_3
        try clear hcz24_0
        try clear hcz24_1
        try clear hcz24_2
        try clear hcz24_3
        try clear hcz26_0
        try clear hcz26_1
        try clear hcz26_2
        try clear hcz26_3
        try clear hfz14_0
        try clear hfz14_1
        try clear hfz14_2
        try clear hfz14_3
        try clear hfz16_0
        try clear hfz16_1
        try clear hfz16_2
        try clear hfz16_3
        try clear hfz21_0
        try clear hfz21_1
        try clear hfz21_2
        try clear hfz21_3
        try clear hfz24_0
        try clear hfz24_1
        try clear hfz24_2
        try clear hfz24_3
        try clear hfz26_0
        try clear hfz26_1
        try clear hfz26_2
        try clear hfz26_3
        try clear p2
        try clear p6
        obtain ⟨x17_2, rfl, HA, HK2, HO_7, HO_8, HO_9, HO_13, BK511, HB⟩ := hrel
        cases gk with
        | zero => exact absurd HA.out (by simp [saronlaw06_KernelTrue.l0])
        | succ k2 =>
         have H := HA.out
         clear HA
         simp only [saronlaw06_KernelTrue.l0] at H
         by_cases c36 : x17_2 < (t514.length : Int)
         ·rw [if_pos c36] at H
          have c36b0 : decide (x17_2 < (t514.length : Int)) = true := decide_eq_true c36
          clear c36
          replace H := Option.bind_eq_some_iff.mp H
          obtain ⟨⟨t533, t536⟩, A370, H⟩ := H
          replace H : (if t536 = 0 then (if 0 ≤ x17_2 then ((saronref00_Where.f k2 t533 (rd t514 x17_2)).bind fun t538 => (if t538 < 0 then (some false) else (saronlaw06_KernelTrue.l0 k2 t514 t518 t521 t525 t527 (wrap64 (x17_2 + 1)) a0_0 a0_1 a0_2 l0_3))) else (none)) else (some false)) = some r := H
          have A37 := zh A370
          clear A370
          by_cases c38 : t536 = 0
          ·rw [if_pos c38] at H
           have c38b0 : (t536 == 0) = true := beq_iff_eq.mpr c38
           have c38b1 : (t536 != 0) = false := bne_eq_false_iff_eq.mpr c38
           clear c38
           by_cases c39 : 0 ≤ x17_2
           ·rw [if_pos c39] at H
            have c39b0 : decide (0 ≤ x17_2) = true := decide_eq_true c39
            clear c39
            replace H := Option.bind_eq_some_iff.mp H
            obtain ⟨t538, A400, H⟩ := H
            replace H : (if t538 < 0 then (some false) else (saronlaw06_KernelTrue.l0 k2 t514 t518 t521 t525 t527 (wrap64 (x17_2 + 1)) a0_0 a0_1 a0_2 l0_3)) = some r := H
            have A40 := zh A400
            clear A400
            by_cases c41 : t538 < 0
            ·rw [if_pos c41] at H
             have c41b0 : decide (t538 < 0) = true := decide_eq_true c41
             clear c41
             obtain rfl := Option.some.inj H
             have hcz42_0 : wr.cell? ⟨gb511, 0, none⟩ = some (.int .i64 a0_0) := vb BK511 0
             have hcz42_1 : wr.cell? ⟨gb511, 1, none⟩ = some (.int .i64 a0_1) := vb BK511 1
             have hcz42_2 : wr.cell? ⟨gb511, 2, none⟩ = some (.int .i64 a0_2) := vb BK511 2
             have hcz42_3 : wr.cell? ⟨gb511, 3, none⟩ = some (.slice A0_3 l0_3.length c0_3) := vb BK511 3
             have hfz42_0 := blk_frozen BK511.out 0
             have hfz42_1 := blk_frozen BK511.out 1
             have hfz42_2 := blk_frozen BK511.out 2
             have hfz42_3 := blk_frozen BK511.out 3
             go_wp2_with (first | ((with_reducible refine gate_callee (f := 24) rfl ?_); refine goesL_ (some 98) rfl rfl Tryd.func24 zk rfl #[.agg #[.int .i64 a0_0, .int .i64 a0_1, .int .i64 a0_2, .slice A0_3 l0_3.length c0_3], .slice Ao22 t518.length co22, .int .i64 x17_2] rfl zm ?_; (with_reducible refine (kernel_Can.calls a0_0 a0_1 a0_2 _ _ l0_3 _ _ t518 x17_2 t533 t536 _ ?side1 ?side2 ?side3 ?side4 ?side5 A37.out).mono ?_); (case side1 => repeat (first | exact (Kd.C_below HR0_3.out HB.out) | (with_reducible refine Kd.C_alloc ?_ _) | (with_reducible refine Kd.C_drewN ?_ _) | (with_reducible refine Kd.C_drew ?_))); (case side2 => exact HC0_3.out); (case side3 => repeat (first | exact (Kd.N_reads' HO_8.out).2.2 | (with_reducible refine Kd.C_alloc ?_ _) | (with_reducible refine Kd.C_drewN ?_ _) | (with_reducible refine Kd.C_drew ?_))); (case side4 => exact (Kd.N_reads' HO_8.out).2.1); (case side5 => exact Glob.below HG.out zb); rintro e w43 ⟨v534, rfl, ho0, hb⟩; refine ⟨_, rfl, ?_⟩; have n0_ := zh (Kd.R_below (zR HO_7) hb); have n1_ := zh (Kd.N_below (zN HO_8) hb); have n2_ := zh (Kd.N_below (zN HO_9) hb); have n3_ := zh (Kd.V_below (zV HO_13) hb); have n4_ := zh (Kd.V_lower (Kd.V_mono (ok' := fun k_ => some k_ ≠ (.slice Ao19 t514.length co19 : Value).ownBlock ∧ some k_ ≠ (.slice Ao22 t518.length co22 : Value).ownBlock ∧ some k_ ≠ (v522 : Value).ownBlock ∧ k_ ≠ gb511) ho0 (fun k_ hk_ => ⟨(Kd.fresh' (Kd.R_lt (zR HO_7)) k_ hk_), (Kd.fresh' (Kd.N_lt (zN HO_8)) k_ hk_), (Kd.fresh' (Kd.N_lt (zN HO_9)) k_ hk_), (Kd.freshB (g := gb511) (o := .cells #[.int .i64 a0_0, .int .i64 a0_1, .int .i64 a0_2, .slice A0_3 l0_3.length c0_3] 24 (0, 0)) (zc BK511) k_ hk_)⟩)) (below_size zb)); have n5_ := zh (blk_below (g := gb511) (o := .cells #[.int .i64 a0_0, .int .i64 a0_1, .int .i64 a0_2, .slice A0_3 l0_3.length c0_3] 24 (0, 0)) (zc BK511) hb); have n6_ := zh (below_step zb hb); clear HO_7; clear HO_8; clear HO_9; clear HO_13; clear BK511; clear HB; have HO_7 := n0_; have HO_8 := n1_; have HO_9 := n2_; have HO_13 := n3_; have HO535 := n4_; have BK511 := n5_; have HB := n6_; clear n0_ n1_ n2_ n3_ n4_ n5_ n6_; (try clear hb); (try clear hb2); (try clear hk); (try clear hi); (try clear ho0); have p537 : 0 ≤ (x17_2 : Int) := of_decide_eq_true zs; have q537 : x17_2 < (t514.length : Int) := of_decide_eq_true zs; obtain ⟨ad537, e537, hx537_0⟩ := Kd.at_int (Kd.R_reads' HO_7.out).2.2 x17_2 p537 q537; cases e537; replace p537 := eq_true p537; replace q537 := eq_true q537; obtain ⟨Ao44, co44, eo44⟩ := Kd.V_slice HO535.out; subst eo44) | (go_at_call 43; (with_reducible refine (saronref00_Where.calls k2 _ _ t533 (rd t514 x17_2) t538 _ ?side1 ?side2 A40.out).mono ?_); (case side1 => repeat (first | exact (Kd.V_reads' HO535.out).2.2 | (with_reducible refine Kd.C_alloc ?_ _) | (with_reducible refine Kd.C_drewN ?_ _) | (with_reducible refine Kd.C_drew ?_))); (case side2 => exact (Kd.V_reads' HO535.out).2.1); rintro e w' ⟨rfl, ⟨nd, rfl⟩⟩))
             go_ret
             exact ⟨zf, zb⟩
            ·rw [if_neg c41] at H
             have c41b0 : decide (t538 < 0) = false := decide_eq_false c41
             clear c41
             have H' := zh H
             clear H
             have hcz45_0 : wr.cell? ⟨gb511, 0, none⟩ = some (.int .i64 a0_0) := vb BK511 0
             have hcz45_1 : wr.cell? ⟨gb511, 1, none⟩ = some (.int .i64 a0_1) := vb BK511 1
             have hcz45_2 : wr.cell? ⟨gb511, 2, none⟩ = some (.int .i64 a0_2) := vb BK511 2
             have hcz45_3 : wr.cell? ⟨gb511, 3, none⟩ = some (.slice A0_3 l0_3.length c0_3) := vb BK511 3
             have hfz45_0 := blk_frozen BK511.out 0
             have hfz45_1 := blk_frozen BK511.out 1
             have hfz45_2 := blk_frozen BK511.out 2
             have hfz45_3 := blk_frozen BK511.out 3
             go_wp2_with (first | ((with_reducible refine gate_callee (f := 24) rfl ?_); refine goesL_ (some 98) rfl rfl Tryd.func24 zk rfl #[.agg #[.int .i64 a0_0, .int .i64 a0_1, .int .i64 a0_2, .slice A0_3 l0_3.length c0_3], .slice Ao22 t518.length co22, .int .i64 x17_2] rfl zm ?_; (with_reducible refine (kernel_Can.calls a0_0 a0_1 a0_2 _ _ l0_3 _ _ t518 x17_2 t533 t536 _ ?side1 ?side2 ?side3 ?side4 ?side5 A37.out).mono ?_); (case side1 => repeat (first | exact (Kd.C_below HR0_3.out HB.out) | (with_reducible refine Kd.C_alloc ?_ _) | (with_reducible refine Kd.C_drewN ?_ _) | (with_reducible refine Kd.C_drew ?_))); (case side2 => exact HC0_3.out); (case side3 => repeat (first | exact (Kd.N_reads' HO_8.out).2.2 | (with_reducible refine Kd.C_alloc ?_ _) | (with_reducible refine Kd.C_drewN ?_ _) | (with_reducible refine Kd.C_drew ?_))); (case side4 => exact (Kd.N_reads' HO_8.out).2.1); (case side5 => exact Glob.below HG.out zb); rintro e w46 ⟨v534, rfl, ho0, hb⟩; refine ⟨_, rfl, ?_⟩; have n0_ := zh (Kd.R_below (zR HO_7) hb); have n1_ := zh (Kd.N_below (zN HO_8) hb); have n2_ := zh (Kd.N_below (zN HO_9) hb); have n3_ := zh (Kd.V_below (zV HO_13) hb); have n4_ := zh (Kd.V_lower (Kd.V_mono (ok' := fun k_ => some k_ ≠ (.slice Ao19 t514.length co19 : Value).ownBlock ∧ some k_ ≠ (.slice Ao22 t518.length co22 : Value).ownBlock ∧ some k_ ≠ (v522 : Value).ownBlock ∧ k_ ≠ gb511) ho0 (fun k_ hk_ => ⟨(Kd.fresh' (Kd.R_lt (zR HO_7)) k_ hk_), (Kd.fresh' (Kd.N_lt (zN HO_8)) k_ hk_), (Kd.fresh' (Kd.N_lt (zN HO_9)) k_ hk_), (Kd.freshB (g := gb511) (o := .cells #[.int .i64 a0_0, .int .i64 a0_1, .int .i64 a0_2, .slice A0_3 l0_3.length c0_3] 24 (0, 0)) (zc BK511) k_ hk_)⟩)) (below_size zb)); have n5_ := zh (blk_below (g := gb511) (o := .cells #[.int .i64 a0_0, .int .i64 a0_1, .int .i64 a0_2, .slice A0_3 l0_3.length c0_3] 24 (0, 0)) (zc BK511) hb); have n6_ := zh (below_step zb hb); clear HO_7; clear HO_8; clear HO_9; clear HO_13; clear BK511; clear HB; have HO_7 := n0_; have HO_8 := n1_; have HO_9 := n2_; have HO_13 := n3_; have HO535 := n4_; have BK511 := n5_; have HB := n6_; clear n0_ n1_ n2_ n3_ n4_ n5_ n6_; (try clear hb); (try clear hb2); (try clear hk); (try clear hi); (try clear ho0); have p537 : 0 ≤ (x17_2 : Int) := of_decide_eq_true zs; have q537 : x17_2 < (t514.length : Int) := of_decide_eq_true zs; obtain ⟨ad537, e537, hx537_0⟩ := Kd.at_int (Kd.R_reads' HO_7.out).2.2 x17_2 p537 q537; cases e537; replace p537 := eq_true p537; replace q537 := eq_true q537; obtain ⟨Ao47, co47, eo47⟩ := Kd.V_slice HO535.out; subst eo47) | (go_at_call 43; (with_reducible refine (saronref00_Where.calls k2 _ _ t533 (rd t514 x17_2) t538 _ ?side1 ?side2 A40.out).mono ?_); (case side1 => repeat (first | exact (Kd.V_reads' HO535.out).2.2 | (with_reducible refine Kd.C_alloc ?_ _) | (with_reducible refine Kd.C_drewN ?_ _) | (with_reducible refine Kd.C_drew ?_))); (case side2 => exact (Kd.V_reads' HO535.out).2.1); rintro e w' ⟨rfl, ⟨nd, rfl⟩⟩))
             go_roundg k2
             case measure => have := HJ11.out; have := HK2.out; omega
             case rel => exact ⟨(wrap64 (x17_2 + 1)), ze, H', ⟨zw HJ11 HK2⟩, ⟨zR HO_7⟩, ⟨zN HO_8⟩, ⟨zN HO_9⟩, ⟨zV HO_13⟩, ⟨zc BK511⟩, ⟨zb⟩⟩
           ·rw [if_neg c39] at H
            exact absurd H (by simp)
          ·rw [if_neg c38] at H
           have c38b0 : (t536 == 0) = false := beq_eq_false_iff_ne.mpr c38
           have c38b1 : (t536 != 0) = true := bne_iff_ne.mpr c38
           obtain rfl := Option.some.inj H
           have hcz48_0 : wr.cell? ⟨gb511, 0, none⟩ = some (.int .i64 a0_0) := vb BK511 0
           have hcz48_1 : wr.cell? ⟨gb511, 1, none⟩ = some (.int .i64 a0_1) := vb BK511 1
           have hcz48_2 : wr.cell? ⟨gb511, 2, none⟩ = some (.int .i64 a0_2) := vb BK511 2
           have hcz48_3 : wr.cell? ⟨gb511, 3, none⟩ = some (.slice A0_3 l0_3.length c0_3) := vb BK511 3
           have hfz48_0 := blk_frozen BK511.out 0
           have hfz48_1 := blk_frozen BK511.out 1
           have hfz48_2 := blk_frozen BK511.out 2
           have hfz48_3 := blk_frozen BK511.out 3
           go_wp2_with (first | ((with_reducible refine gate_callee (f := 24) rfl ?_); refine goesL_ (some 98) rfl rfl Tryd.func24 zk rfl #[.agg #[.int .i64 a0_0, .int .i64 a0_1, .int .i64 a0_2, .slice A0_3 l0_3.length c0_3], .slice Ao22 t518.length co22, .int .i64 x17_2] rfl zm ?_; (with_reducible refine (kernel_Can.calls a0_0 a0_1 a0_2 _ _ l0_3 _ _ t518 x17_2 t533 t536 _ ?side1 ?side2 ?side3 ?side4 ?side5 A37.out).mono ?_); (case side1 => repeat (first | exact (Kd.C_below HR0_3.out HB.out) | (with_reducible refine Kd.C_alloc ?_ _) | (with_reducible refine Kd.C_drewN ?_ _) | (with_reducible refine Kd.C_drew ?_))); (case side2 => exact HC0_3.out); (case side3 => repeat (first | exact (Kd.N_reads' HO_8.out).2.2 | (with_reducible refine Kd.C_alloc ?_ _) | (with_reducible refine Kd.C_drewN ?_ _) | (with_reducible refine Kd.C_drew ?_))); (case side4 => exact (Kd.N_reads' HO_8.out).2.1); (case side5 => exact Glob.below HG.out zb); rintro e w49 ⟨v534, rfl, ho0, hb⟩; refine ⟨_, rfl, ?_⟩; have n0_ := zh (Kd.R_below (zR HO_7) hb); have n1_ := zh (Kd.N_below (zN HO_8) hb); have n2_ := zh (Kd.N_below (zN HO_9) hb); have n3_ := zh (Kd.V_below (zV HO_13) hb); have n4_ := zh (Kd.V_lower (Kd.V_mono (ok' := fun k_ => some k_ ≠ (.slice Ao19 t514.length co19 : Value).ownBlock ∧ some k_ ≠ (.slice Ao22 t518.length co22 : Value).ownBlock ∧ some k_ ≠ (v522 : Value).ownBlock ∧ k_ ≠ gb511) ho0 (fun k_ hk_ => ⟨(Kd.fresh' (Kd.R_lt (zR HO_7)) k_ hk_), (Kd.fresh' (Kd.N_lt (zN HO_8)) k_ hk_), (Kd.fresh' (Kd.N_lt (zN HO_9)) k_ hk_), (Kd.freshB (g := gb511) (o := .cells #[.int .i64 a0_0, .int .i64 a0_1, .int .i64 a0_2, .slice A0_3 l0_3.length c0_3] 24 (0, 0)) (zc BK511) k_ hk_)⟩)) (below_size zb)); have n5_ := zh (blk_below (g := gb511) (o := .cells #[.int .i64 a0_0, .int .i64 a0_1, .int .i64 a0_2, .slice A0_3 l0_3.length c0_3] 24 (0, 0)) (zc BK511) hb); have n6_ := zh (below_step zb hb); clear HO_7; clear HO_8; clear HO_9; clear HO_13; clear BK511; clear HB; have HO_7 := n0_; have HO_8 := n1_; have HO_9 := n2_; have HO_13 := n3_; have HO535 := n4_; have BK511 := n5_; have HB := n6_; clear n0_ n1_ n2_ n3_ n4_ n5_ n6_; (try clear hb); (try clear hb2); (try clear hk); (try clear hi); (try clear ho0)))
           go_ret
           exact ⟨zf, zb⟩
         ·rw [if_neg c36] at H
          have c36b0 : decide (x17_2 < (t514.length : Int)) = false := decide_eq_false c36
          clear c36
          have H' := zh H
          clear H
          go_wp2
          go_loopg [20] k2 (fun kq v20 w' => ∃ (x20_3 : Int), v20 = .int .i64 x20_3 ∧ Aside0 (saronlaw06_KernelTrue.l1 kq t514 t518 t521 t525 t527 x20_3 a0_0 a0_1 a0_2 l0_3 = some r) ∧ Aside0 (kq ≤ k2) ∧ Aside0 (Kd.R (Kd.int .i64) 3 w' w.heap.size (fun _ => True) (.slice Ao19 t514.length co19) t514) ∧ Aside0 (Kd.N k60 60 w' w.heap.size (fun k_ => some k_ ≠ ((.slice Ao19 t514.length co19) : Value).ownBlock ∧ some k_ ≠ (v522 : Value).ownBlock ∧ k_ ≠ gb511) (.slice Ao22 t518.length co22) t518) ∧ Aside0 (Kd.N (Kd.slice 3 (Kd.int .i64)) 25 w' w.heap.size (fun k_ => some k_ ≠ ((.slice Ao19 t514.length co19) : Value).ownBlock ∧ some k_ ≠ ((.slice Ao22 t518.length co22) : Value).ownBlock ∧ k_ ≠ gb511) v522 t521) ∧ Aside0 (Kd.V (Kd.slice 3 (Kd.int .i64)) 25 w' w.heap.size (fun k_ => some k_ ≠ ((.slice Ao19 t514.length co19) : Value).ownBlock ∧ some k_ ≠ ((.slice Ao22 t518.length co22) : Value).ownBlock ∧ some k_ ≠ (v522 : Value).ownBlock ∧ k_ ≠ gb511) v528 t527) ∧ Aside0 (w'.heap[gb511]? = some (.cells #[.int .i64 a0_0, .int .i64 a0_1, .int .i64 a0_2, (.slice A0_3 l0_3.length c0_3)] 24 (0, 0))) ∧ Aside0 (Below w.heap.size w w'))
          case atStart => exact ⟨(0), ze, H', ⟨Nat.le_refl _⟩, ⟨zR HO_7⟩, ⟨zN HO_8⟩, ⟨zN HO_9⟩, ⟨zV HO_13⟩, ⟨zc BK511⟩, ⟨zb⟩⟩
          case round =>
           as_aux_lemma =>
            clear H'
            try clear c1
            try clear c2
            try clear p2
            try clear c3
            try clear c4
            try clear c5
            try clear p5
            try clear q5
            try clear hx5
            try clear p6
            try clear c7
            try clear c22
            try clear c24
            try clear c28
            try clear c29
            try clear c29b0
            try clear c29b1
            try clear c30
            try clear c30b0
            try clear c30b1
            try clear c31
            try clear c31b0
            try clear c31b1
            try clear c32
            try clear c32b0
            try clear c33
            try clear c33b0
            try clear c33b1
            try clear c35
            try clear c36
            try clear c36b0
            try clear c38
            try clear c38b0
            try clear c38b1
            try clear c39
            try clear c39b0
            try clear c40
            try clear c41
            try clear c41b0
            try clear c42
            try clear hcz14_0
            try clear hcz14_1
            try clear hcz14_2
            try clear hcz14_3
            try clear hcz16_0
            try clear hcz16_1
            try clear hcz16_2
            try clear hcz16_3
            try clear hcz21_0
            try clear hcz21_1
            try clear hcz21_2
            try clear hcz21_3
            try clear hcz24_0
            try clear hcz24_1
            try clear hcz24_2
            try clear hcz24_3
            try clear hcz26_0
            try clear hcz26_1
            try clear hcz26_2
            try clear hcz26_3
            try clear hcz42_0
            try clear hcz42_1
            try clear hcz42_2
            try clear hcz42_3
            try clear hcz45_0
            try clear hcz45_1
            try clear hcz45_2
            try clear hcz45_3
            try clear hcz48_0
            try clear hcz48_1
            try clear hcz48_2
            try clear hcz48_3
            try clear hfz14_0
            try clear hfz14_1
            try clear hfz14_2
            try clear hfz14_3
            try clear hfz16_0
            try clear hfz16_1
            try clear hfz16_2
            try clear hfz16_3
            try clear hfz21_0
            try clear hfz21_1
            try clear hfz21_2
            try clear hfz21_3
            try clear hfz24_0
            try clear hfz24_1
            try clear hfz24_2
            try clear hfz24_3
            try clear hfz26_0
            try clear hfz26_1
            try clear hfz26_2
            try clear hfz26_3
            try clear hfz42_0
            try clear hfz42_1
            try clear hfz42_2
            try clear hfz42_3
            try clear hfz45_0
            try clear hfz45_1
            try clear hfz45_2
            try clear hfz45_3
            try clear hfz48_0
            try clear hfz48_1
            try clear hfz48_2
            try clear hfz48_3
            try clear hx537_0
            try clear p2
            try clear p537
            try clear p6
            try clear q537
            obtain ⟨x20_3, rfl, HA, HK3, HO_7, HO_8, HO_9, HO_13, BK511, HB⟩ := hrel
            cases gk with
            | zero => exact absurd HA.out (by simp [saronlaw06_KernelTrue.l1])
            | succ k3 =>
             have H := HA.out
             clear HA
             simp only [saronlaw06_KernelTrue.l1] at H
             by_cases c50 : x20_3 < (t527.length : Int)
             ·rw [if_pos c50] at H
              have c50b0 : decide (x20_3 < (t527.length : Int)) = true := decide_eq_true c50
              clear c50
              by_cases c51 : 0 ≤ x20_3
              ·rw [if_pos c51] at H
               have c51b0 : decide (0 ≤ x20_3) = true := decide_eq_true c51
               clear c51
               by_cases c52 : x20_3 < (t521.length : Int)
               ·rw [if_pos c52] at H
                have c52b0 : decide (x20_3 < (t521.length : Int)) = true := decide_eq_true c52
                clear c52
                by_cases c53 : ((rd_L4 t527 x20_3).length : Int) = ((rd_L4 t521 x20_3).length : Int)
                ·rw [if_pos c53] at H
                 have c53b0 : (((rd_L4 t527 x20_3).length : Int) == ((rd_L4 t521 x20_3).length : Int)) = true := beq_iff_eq.mpr c53
                 have c53b1 : (((rd_L4 t527 x20_3).length : Int) != ((rd_L4 t521 x20_3).length : Int)) = false := bne_eq_false_iff_eq.mpr c53
                 have c53b2 : ((rd_L4 t527 x20_3).length == (rd_L4 t521 x20_3).length) = true := by first | simpa using c53 | (simp at c53 ⊢; omega)
                 clear c53
                 have H' := zh H
                 clear H
                 obtain ⟨Ao54, co54, eo54⟩ := Kd.V_slice HO_13.out
                 subst eo54
                 try go_wp2
                 replace HO_7 := zh (Kd.R_drew HO_7.out)
                 replace HO_8 := zh (Kd.N_drew HO_8.out)
                 replace HO_9 := zh (Kd.N_drew HO_9.out)
                 replace HO_13 := zh (Kd.V_drew HO_13.out)
                 replace BK511 := zh (blk_drew BK511.out)
                 replace HB := zh (below_drew1 HB.out)
                 have p539 : 0 ≤ (x20_3 : Int) := of_decide_eq_true zs
                 have q539 : x20_3 < (t527.length : Int) := of_decide_eq_true zs
                 obtain ⟨ad539, A539_0, c539_0, e539, hx539_0, hl539_0, hi539_0⟩ := at_L4 (Kd.V_reads' HO_13.out).2.2 x20_3 p539 q539
                 cases e539
                 obtain ⟨ce539, hce539, hMe539, hcc539⟩ := Kd.V_get HO_13.out [] x20_3 p539 (by first | exact q539 | exact of_decide_eq_true zs | (have e_ := (Kd.V_reads' HO_13.out).1; omega))
                 obtain ⟨ua539_0, uc539_0, rfl, ul539_0, ge539_0⟩ := Kd.FK_slice_open hMe539
                 have hv539_0 := hcc539 0 _ rfl
                 rw [Nat.add_zero, show ((Kd.slice 3 (Kd.int .i64))).sz = 1 from rfl, Nat.mul_one] at hv539_0
                 replace hv539_0 := Option.some.inj (hv539_0.symm.trans hx539_0)
                 injection hv539_0 with hva_ hvn_ hvc_
                 rw [hva_] at ge539_0
                 rw [hvc_] at ul539_0
                 have HL539_0 := zh (show Kd.V (Kd.int .i64) 3 _ w.heap.size _ _ (rd_L4 t527 x20_3) from Kd.V_mk ul539_0 ge539_0)
                 clear hva_ hvn_ hvc_ ge539_0 ul539_0 hcc539 hce539
                 have HR539_0 := zh hi539_0
                 have HC539_0 := zh hl539_0
                 clear hi539_0 hl539_0
                 replace p539 := eq_true p539
                 replace q539 := eq_true q539
                 obtain ⟨Ao56, co56, eo56⟩ := Kd.N_slice HO_9.out
                 (first | subst eo56 | (injection eo56 with f1_ f2_ f3_; have f4_ := f1_.symm; have f5_ := f3_.symm; clear f1_ f2_ f3_; subst f4_; subst f5_))
                 have p540 : 0 ≤ (x20_3 : Int) := of_decide_eq_true zs
                 have q540 : x20_3 < (t521.length : Int) := of_decide_eq_true zs
                 obtain ⟨ad540, A540_0, c540_0, e540, hx540_0, hl540_0, hi540_0⟩ := at_L4 (Kd.N_reads' HO_9.out).2.2 x20_3 p540 q540
                 cases e540
                 obtain ⟨ce540, hce540, hMe540, hcc540⟩ := Kd.N_get HO_9.out [] x20_3 p540 (by first | exact q540 | exact of_decide_eq_true zs | (have e_ := (Kd.N_reads' HO_9.out).1; omega))
                 obtain ⟨ua540_0, uc540_0, rfl, ul540_0, ge540_0⟩ := Kd.FK_slice_open hMe540
                 have hv540_0 := hcc540 0 _ rfl
                 rw [Nat.add_zero, show ((Kd.slice 3 (Kd.int .i64))).sz = 1 from rfl, Nat.mul_one] at hv540_0
                 replace hv540_0 := Option.some.inj (hv540_0.symm.trans hx540_0)
                 injection hv540_0 with hva_ hvn_ hvc_
                 rw [hva_] at ge540_0
                 rw [hvc_] at ul540_0
                 have HL540_0 := zh (show Kd.V (Kd.int .i64) 3 _ w.heap.size _ _ (rd_L4 t521 x20_3) from Kd.V_mk ul540_0 ge540_0)
                 clear hva_ hvn_ hvc_ ge540_0 ul540_0 hcc540 hce540
                 have HR540_0 := zh hi540_0
                 have HC540_0 := zh hl540_0
                 clear hi540_0 hl540_0
                 replace p540 := eq_true p540
                 replace q540 := eq_true q540
                 refine start_ (n := 11) (S := fun w' => w'.cell? (ad539.add (x20_3).toNat) = some (.slice A539_0 (rd_L4 t527 x20_3).length c539_0) ∧ w'.cell? (ad540.add (x20_3).toNat) = some (.slice A540_0 (rd_L4 t521 x20_3).length c540_0)) (ds := []) (Array.replicate 11 false) zk rfl rfl ⟨hx539_0, hx540_0⟩ (fun hHeld => ?_); refine with_tabW saronlaw06_KernelTrue.tab19 saronlaw06_KernelTrue.bits19 (fun HT_ HW_ => ?_)
                 generalize wr.drew = w55 at HO_7 HO_8 HO_9 HO_13 BK511 HB HL539_0 HL540_0 HR539_0 HR540_0 hx539_0 hx540_0 hHeld ⊢
                 refine zu 0 ?_
                 refine zu 1 ?_
                 refine zu 2 ?_
                 refine zu 5 ?_
                 refine zu 6 ?_
                 refine zu 7 ?_
                 refine zt 3 ?_
                 refine zu 4 ?_
                 refine zt 8 ?_
                 refine zu 9 ?_
                 refine zu 10 ?_
                 refine zd ?_
                 try go_wp2
                 go_loopg [21] k3 (fun kq v21 w' => ∃ (x21_4 : Int), v21 = .int .i64 x21_4 ∧ Aside0 (saronlaw06_KernelTrue.l2 kq t514 t518 t521 t525 t527 x20_3 x21_4 a0_0 a0_1 a0_2 l0_3 = some r) ∧ Aside0 (kq ≤ k3) ∧ Aside0 (Kd.R (Kd.int .i64) 3 w' w.heap.size (fun _ => True) (.slice Ao19 t514.length co19) t514) ∧ Aside0 (Kd.N k60 60 w' w.heap.size (fun k_ => some k_ ≠ ((.slice Ao19 t514.length co19) : Value).ownBlock ∧ some k_ ≠ ((.slice (some ad540) t521.length co56) : Value).ownBlock ∧ k_ ≠ gb511) (.slice Ao22 t518.length co22) t518) ∧ Aside0 (Kd.N (Kd.slice 3 (Kd.int .i64)) 25 w' w.heap.size (fun k_ => some k_ ≠ ((.slice Ao19 t514.length co19) : Value).ownBlock ∧ some k_ ≠ ((.slice Ao22 t518.length co22) : Value).ownBlock ∧ k_ ≠ gb511) (.slice (some ad540) t521.length co56) t521) ∧ Aside0 (Kd.V (Kd.slice 3 (Kd.int .i64)) 25 w' w.heap.size (fun k_ => some k_ ≠ ((.slice Ao19 t514.length co19) : Value).ownBlock ∧ some k_ ≠ ((.slice Ao22 t518.length co22) : Value).ownBlock ∧ some k_ ≠ ((.slice (some ad540) t521.length co56) : Value).ownBlock ∧ k_ ≠ gb511) (.slice (some ad539) t527.length co54) t527) ∧ Aside0 (w'.heap[gb511]? = some (.cells #[.int .i64 a0_0, .int .i64 a0_1, .int .i64 a0_2, (.slice A0_3 l0_3.length c0_3)] 24 (0, 0))) ∧ Aside0 (Kd.C (Kd.int .i64) w' A539_0 (rd_L4 t527 x20_3).length (rd_L4 t527 x20_3)) ∧ Aside0 (Kd.C (Kd.int .i64) w' A540_0 (rd_L4 t521 x20_3).length (rd_L4 t521 x20_3)) ∧ Aside0 (Below w.heap.size w w'))
                 case atStart => exact ⟨(0), ze, H', ⟨Nat.le_refl _⟩, ⟨zR HO_7⟩, ⟨zN HO_8⟩, ⟨zN HO_9⟩, ⟨zV HO_13⟩, ⟨zc BK511⟩, ⟨by repeat (first | (with_reducible exact HR539_0.out) | (with_reducible refine Kd.C_alloc ?_ _) | (with_reducible refine Kd.C_drewN ?_ _) | (with_reducible refine Kd.C_drew ?_) | exact HR539_0.out)⟩, ⟨by repeat (first | (with_reducible exact HR540_0.out) | (with_reducible refine Kd.C_alloc ?_ _) | (with_reducible refine Kd.C_drewN ?_ _) | (with_reducible refine Kd.C_drew ?_) | exact HR540_0.out)⟩, ⟨zb⟩⟩
                 case round =>
                  as_aux_lemma =>
                   clear H'
                   try clear c1
                   try clear c2
                   try clear p2
                   try clear c3
                   try clear c4
                   try clear c5
                   try clear p5
                   try clear q5
                   try clear hx5
                   try clear p6
                   try clear c7
                   try clear c22
                   try clear c24
                   try clear c28
                   try clear c29
                   try clear c29b0
                   try clear c29b1
                   try clear c30
                   try clear c30b0
                   try clear c30b1
                   try clear c31
                   try clear c31b0
                   try clear c31b1
                   try clear c32
                   try clear c32b0
                   try clear c33
                   try clear c33b0
                   try clear c33b1
                   try clear c35
                   try clear c36
                   try clear c36b0
                   try clear c38
                   try clear c38b0
                   try clear c38b1
                   try clear c39
                   try clear c39b0
                   try clear c40
                   try clear c41
                   try clear c41b0
                   try clear c42
                   try clear c50
                   try clear c50b0
                   try clear c51
                   try clear c51b0
                   try clear c52
                   try clear c52b0
                   try clear c53
                   try clear c53b0
                   try clear c53b1
                   try clear c53b2
                   try clear p53
                   try clear q53
                   try clear hx53
                   try clear c54
                   try clear p54
                   try clear q54
                   try clear hx54
                   try clear hcz14_0
                   try clear hcz14_1
                   try clear hcz14_2
                   try clear hcz14_3
                   try clear hcz16_0
                   try clear hcz16_1
                   try clear hcz16_2
                   try clear hcz16_3
                   try clear hcz21_0
                   try clear hcz21_1
                   try clear hcz21_2
                   try clear hcz21_3
                   try clear hcz24_0
                   try clear hcz24_1
                   try clear hcz24_2
                   try clear hcz24_3
                   try clear hcz26_0
                   try clear hcz26_1
                   try clear hcz26_2
                   try clear hcz26_3
                   try clear hcz42_0
                   try clear hcz42_1
                   try clear hcz42_2
                   try clear hcz42_3
                   try clear hcz45_0
                   try clear hcz45_1
                   try clear hcz45_2
                   try clear hcz45_3
                   try clear hcz48_0
                   try clear hcz48_1
                   try clear hcz48_2
                   try clear hcz48_3
                   try clear hfz14_0
                   try clear hfz14_1
                   try clear hfz14_2
                   try clear hfz14_3
                   try clear hfz16_0
                   try clear hfz16_1
                   try clear hfz16_2
                   try clear hfz16_3
                   try clear hfz21_0
                   try clear hfz21_1
                   try clear hfz21_2
                   try clear hfz21_3
                   try clear hfz24_0
                   try clear hfz24_1
                   try clear hfz24_2
                   try clear hfz24_3
                   try clear hfz26_0
                   try clear hfz26_1
                   try clear hfz26_2
                   try clear hfz26_3
                   try clear hfz42_0
                   try clear hfz42_1
                   try clear hfz42_2
                   try clear hfz42_3
                   try clear hfz45_0
                   try clear hfz45_1
                   try clear hfz45_2
                   try clear hfz45_3
                   try clear hfz48_0
                   try clear hfz48_1
                   try clear hfz48_2
                   try clear hfz48_3
                   try clear hx537_0
                   try clear hx539_0
                   try clear hx540_0
                   try clear p2
                   try clear p5
                   try clear p537
                   try clear p539
                   try clear p540
                   try clear p6
                   try clear q5
                   try clear q537
                   try clear q539
                   try clear q540
                   obtain ⟨x21_4, rfl, HA, HK4, HO_7, HO_8, HO_9, HO_13, BK511, HR539_0, HR540_0, HB⟩ := hrel
                   cases gk with
                   | zero => exact absurd HA.out (by simp [saronlaw06_KernelTrue.l2])
                   | succ k4 =>
                    have H := HA.out
                    clear HA
                    simp only [saronlaw06_KernelTrue.l2] at H
                    by_cases c57 : 0 ≤ x20_3
                    ·rw [if_pos c57] at H
                     have c57b0 : decide (0 ≤ x20_3) = true := decide_eq_true c57
                     clear c57
                     by_cases c58 : x20_3 < (t527.length : Int)
                     ·rw [if_pos c58] at H
                      have c58b0 : decide (x20_3 < (t527.length : Int)) = true := decide_eq_true c58
                      clear c58
                      by_cases c59 : x21_4 < ((rd_L4 t527 x20_3).length : Int)
                      ·rw [if_pos c59] at H
                       have c59b0 : decide (x21_4 < ((rd_L4 t527 x20_3).length : Int)) = true := decide_eq_true c59
                       clear c59
                       by_cases c60 : 0 ≤ x21_4
                       ·rw [if_pos c60] at H
                        have c60b0 : decide (0 ≤ x21_4) = true := decide_eq_true c60
                        clear c60
                        by_cases c61 : x20_3 < (t521.length : Int)
                        ·rw [if_pos c61] at H
                         have c61b0 : decide (x20_3 < (t521.length : Int)) = true := decide_eq_true c61
                         clear c61
                         by_cases c62 : x21_4 < ((rd_L4 t521 x20_3).length : Int)
                         ·rw [if_pos c62] at H
                          have c62b0 : decide (x21_4 < ((rd_L4 t521 x20_3).length : Int)) = true := decide_eq_true c62
                          clear c62
                          by_cases c63 : (rd (rd_L4 t527 x20_3) x21_4) = (rd (rd_L4 t521 x20_3) x21_4)
                          ·rw [if_pos c63] at H
                           have c63b0 : ((rd (rd_L4 t527 x20_3) x21_4) == (rd (rd_L4 t521 x20_3) x21_4)) = true := beq_iff_eq.mpr c63
                           have c63b1 : ((rd (rd_L4 t527 x20_3) x21_4) != (rd (rd_L4 t521 x20_3) x21_4)) = false := bne_eq_false_iff_eq.mpr c63
                           clear c63
                           have H' := zh H
                           clear H
                           have p541 : 0 ≤ (x20_3 : Int) := of_decide_eq_true zs
                           have q541 : x20_3 < (t527.length : Int) := of_decide_eq_true zs
                           obtain ⟨ad541, A541_0, c541_0, e541, hx541_0, hl541_0, hi541_0⟩ := at_L4 (Kd.V_reads' HO_13.out).2.2 x20_3 p541 q541
                           obtain rfl : ad539 = ad541 := (by injection e541)
                           obtain ⟨ce541, hce541, hMe541, hcc541⟩ := Kd.V_get HO_13.out [] x20_3 p541 dTr6
                           obtain ⟨ua541_0, uc541_0, rfl, ul541_0, ge541_0⟩ := Kd.FK_slice_open hMe541
                           have hv541_0 := hcc541 0 _ rfl
                           rw [Nat.add_zero, show ((Kd.slice 3 (Kd.int .i64))).sz = 1 from rfl, Nat.mul_one] at hv541_0
                           replace hv541_0 := Option.some.inj (hv541_0.symm.trans hx541_0)
                           injection hv541_0 with hva_ hvn_ hvc_
                           rw [hva_] at ge541_0
                           rw [hvc_] at ul541_0
                           have HL541_0 := zh (show Kd.V (Kd.int .i64) 3 _ w.heap.size _ _ (rd_L4 t527 x20_3) from Kd.V_mk ul541_0 ge541_0)
                           clear hva_ hvn_ hvc_ ge541_0 ul541_0 hcc541 hce541
                           have HR541_0 := zh hi541_0
                           have HC541_0 := zh hl541_0
                           clear hi541_0 hl541_0
                           replace p541 := eq_true p541
                           replace q541 := eq_true q541
                           try go_wp2
                           replace HO_7 := zh (Kd.R_drew HO_7.out)
                           replace HO_8 := zh (Kd.N_drew HO_8.out)
                           replace HO_9 := zh (Kd.N_drew HO_9.out)
                           replace HO_13 := zh (Kd.V_drew HO_13.out)
                           replace HL541_0 := zh (Kd.V_drew HL541_0.out)
                           replace BK511 := zh (blk_drew BK511.out)
                           replace HR539_0 := zh (Kd.C_drew HR539_0.out)
                           replace HR540_0 := zh (Kd.C_drew HR540_0.out)
                           replace HR541_0 := zh (Kd.C_drew HR541_0.out)
                           replace HB := zh (below_drew1 HB.out)
                           have p542 : 0 ≤ (x20_3 : Int) := of_decide_eq_true zs
                           have q542 : x20_3 < (t527.length : Int) := of_decide_eq_true zs
                           obtain ⟨ad542, A542_0, c542_0, e542, hx542_0, hl542_0, hi542_0⟩ := at_L4 (Kd.V_reads' HO_13.out).2.2 x20_3 p542 q542
                           obtain rfl : ad539 = ad542 := (by injection e542)
                           obtain ⟨ce542, hce542, hMe542, hcc542⟩ := Kd.V_get HO_13.out [] x20_3 p542 dTr14
                           obtain ⟨ua542_0, uc542_0, rfl, ul542_0, ge542_0⟩ := Kd.FK_slice_open hMe542
                           have hv542_0 := hcc542 0 _ rfl
                           rw [Nat.add_zero, show ((Kd.slice 3 (Kd.int .i64))).sz = 1 from rfl, Nat.mul_one] at hv542_0
                           replace hv542_0 := Option.some.inj (hv542_0.symm.trans hx542_0)
                           injection hv542_0 with hva_ hvn_ hvc_
                           rw [hva_] at ge542_0
                           rw [hvc_] at ul542_0
                           have HL542_0 := zh (show Kd.V (Kd.int .i64) 3 _ w.heap.size _ _ (rd_L4 t527 x20_3) from Kd.V_mk ul542_0 ge542_0)
                           clear hva_ hvn_ hvc_ ge542_0 ul542_0 hcc542 hce542
                           have HR542_0 := zh hi542_0
                           have HC542_0 := zh hl542_0
                           clear hi542_0 hl542_0
                           replace p542 := eq_true p542
                           replace q542 := eq_true q542
                           have p543 : 0 ≤ (x21_4 : Int) := of_decide_eq_true zs
                           have q543 : x21_4 < ((rd_L4 t527 x20_3).length : Int) := of_decide_eq_true zs
                           obtain ⟨ad543, e543, hx543_0⟩ := Kd.at_int dTr2 x21_4 p543 q543
                           cases e543
                           replace p543 := eq_true p543
                           replace q543 := eq_true q543
                           have p544 : 0 ≤ (x20_3 : Int) := of_decide_eq_true zs
                           have q544 : x20_3 < (t521.length : Int) := of_decide_eq_true zs
                           obtain ⟨ad544, A544_0, c544_0, e544, hx544_0, hl544_0, hi544_0⟩ := at_L4 (Kd.N_reads' HO_9.out).2.2 x20_3 p544 q544
                           obtain rfl : ad540 = ad544 := (by injection e544)
                           obtain ⟨ce544, hce544, hMe544, hcc544⟩ := Kd.N_get HO_9.out [] x20_3 p544 dTr15
                           obtain ⟨ua544_0, uc544_0, rfl, ul544_0, ge544_0⟩ := Kd.FK_slice_open hMe544
                           have hv544_0 := hcc544 0 _ rfl
                           rw [Nat.add_zero, show ((Kd.slice 3 (Kd.int .i64))).sz = 1 from rfl, Nat.mul_one] at hv544_0
                           replace hv544_0 := Option.some.inj (hv544_0.symm.trans hx544_0)
                           injection hv544_0 with hva_ hvn_ hvc_
                           rw [hva_] at ge544_0
                           rw [hvc_] at ul544_0
                           have HL544_0 := zh (show Kd.V (Kd.int .i64) 3 _ w.heap.size _ _ (rd_L4 t521 x20_3) from Kd.V_mk ul544_0 ge544_0)
                           clear hva_ hvn_ hvc_ ge544_0 ul544_0 hcc544 hce544
                           have HR544_0 := zh hi544_0
                           have HC544_0 := zh hl544_0
                           clear hi544_0 hl544_0
                           replace p544 := eq_true p544
                           replace q544 := eq_true q544
                           have p545 : 0 ≤ (x21_4 : Int) := of_decide_eq_true zs
                           have q545 : x21_4 < ((rd_L4 t521 x20_3).length : Int) := of_decide_eq_true zs
                           obtain ⟨ad545, e545, hx545_0⟩ := Kd.at_int dTr1 x21_4 p545 q545
                           cases e545
                           replace p545 := eq_true p545
                           replace q545 := eq_true q545
                           refine start_ (n := 36) (S := fun w' => w'.cell? (ad539.add (x20_3).toNat) = some (.slice (some ad543) (rd_L4 t527 x20_3).length c542_0) ∧ w'.cell? (ad543.add (x21_4).toNat) = some (.int .i64 (rd (rd_L4 t527 x20_3) x21_4)) ∧ w'.cell? (ad540.add (x20_3).toNat) = some (.slice (some ad545) (rd_L4 t521 x20_3).length c544_0) ∧ w'.cell? (ad545.add (x21_4).toNat) = some (.int .i64 (rd (rd_L4 t521 x20_3) x21_4))) (ds := []) (Array.replicate 36 false) zk rfl rfl ⟨hx542_0, hx543_0, hx544_0, hx545_0⟩ (fun hHeld => ?_); refine with_tabW saronlaw06_KernelTrue.tab24 saronlaw06_KernelTrue.bits24 (fun HT_ HW_ => ?_)
                           generalize wr.drew = w64 at HO_7 HO_8 HO_9 HO_13 HL541_0 BK511 HR539_0 HR540_0 HR541_0 HB HL542_0 HL544_0 HR542_0 HR544_0 hx542_0 hx543_0 hx544_0 hx545_0 hHeld ⊢
                           refine zu 0 ?_
                           refine zu 1 ?_
                           refine zu 2 ?_
                           refine zu 4 ?_
                           refine zu 7 ?_
                           refine zu 8 ?_
                           refine zu 9 ?_
                           refine zu 11 ?_
                           refine zt 3 ?_
                           refine zu 5 ?_
                           refine zt 6 ?_
                           refine zt 10 ?_
                           refine zu 12 ?_
                           refine zt 13 ?_
                           refine zu 14 ?_
                           refine zu 15 ?_
                           refine zn 16 ?_
                           refine zn 17 ?_
                           refine zn 18 ?_
                           refine zn 19 ?_
                           refine zn 20 ?_
                           refine zn 21 ?_
                           refine zn 22 ?_
                           refine zn 23 ?_
                           refine zn 24 ?_
                           refine zn 25 ?_
                           refine zn 26 ?_
                           refine zn 27 ?_
                           refine zn 28 ?_
                           refine zn 29 ?_
                           refine zn 30 ?_
                           refine zn 31 ?_
                           refine zn 32 ?_
                           refine zn 33 ?_
                           refine zn 34 ?_
                           refine zu 35 ?_
                           refine zd ?_
                           try go_wp2
                           go_roundg k4
                           case measure => have := HJ11.out; have := HK2.out; have := HK3.out; have := HK4.out; omega
                           case rel => exact ⟨(wrap64 (x21_4 + 1)), ze, H', ⟨by have := HJ11.out; have := HK2.out; have := HK3.out; have := HK4.out; omega⟩, ⟨zR HO_7⟩, ⟨zN HO_8⟩, ⟨zN HO_9⟩, ⟨zV HO_13⟩, ⟨zc BK511⟩, ⟨by repeat (first | (with_reducible exact HR539_0.out) | (with_reducible refine Kd.C_alloc ?_ _) | (with_reducible refine Kd.C_drewN ?_ _) | (with_reducible refine Kd.C_drew ?_) | exact HR539_0.out)⟩, ⟨by repeat (first | (with_reducible exact HR540_0.out) | (with_reducible refine Kd.C_alloc ?_ _) | (with_reducible refine Kd.C_drewN ?_ _) | (with_reducible refine Kd.C_drew ?_) | exact HR540_0.out)⟩, ⟨zb⟩⟩
                          ·rw [if_neg c63] at H
                           have c63b0 : ((rd (rd_L4 t527 x20_3) x21_4) == (rd (rd_L4 t521 x20_3) x21_4)) = false := beq_eq_false_iff_ne.mpr c63
                           have c63b1 : ((rd (rd_L4 t527 x20_3) x21_4) != (rd (rd_L4 t521 x20_3) x21_4)) = true := bne_iff_ne.mpr c63
                           by_cases c65 : (rd (rd_L4 t527 x20_3) x21_4) = (-2)
                           ·rw [if_pos c65] at H
                            have c65b0 : ((rd (rd_L4 t527 x20_3) x21_4) == (-2)) = true := beq_iff_eq.mpr c65
                            have c65b1 : ((rd (rd_L4 t527 x20_3) x21_4) != (-2)) = false := bne_eq_false_iff_eq.mpr c65
                            clear c65
                            by_cases c66 : x20_3 < (t518.length : Int)
                            ·rw [if_pos c66] at H
                             have c66b0 : decide (x20_3 < (t518.length : Int)) = true := decide_eq_true c66
                             clear c66
                             by_cases c67 : x21_4 < (((rd_T60 t518 x20_3).f1).length : Int)
                             ·rw [if_pos c67] at H
                              have c67b0 : decide (x21_4 < (((rd_T60 t518 x20_3).f1).length : Int)) = true := decide_eq_true c67
                              clear c67
                              by_cases c68 : (rd ((rd_T60 t518 x20_3).f1) x21_4) = (-2)
                              ·rw [if_pos c68] at H
                               have c68b0 : ((rd ((rd_T60 t518 x20_3).f1) x21_4) == (-2)) = true := beq_iff_eq.mpr c68
                               have c68b1 : ((rd ((rd_T60 t518 x20_3).f1) x21_4) != (-2)) = false := bne_eq_false_iff_eq.mpr c68
                               clear c68
                               have H' := zh H
                               clear H
                               have p541 : 0 ≤ (x20_3 : Int) := of_decide_eq_true zs
                               have q541 : x20_3 < (t527.length : Int) := of_decide_eq_true zs
                               obtain ⟨ad541, A541_0, c541_0, e541, hx541_0, hl541_0, hi541_0⟩ := at_L4 (Kd.V_reads' HO_13.out).2.2 x20_3 p541 q541
                               obtain rfl : ad539 = ad541 := (by injection e541)
                               obtain ⟨ce541, hce541, hMe541, hcc541⟩ := Kd.V_get HO_13.out [] x20_3 p541 dTr6
                               obtain ⟨ua541_0, uc541_0, rfl, ul541_0, ge541_0⟩ := Kd.FK_slice_open hMe541
                               have hv541_0 := hcc541 0 _ rfl
                               rw [Nat.add_zero, show ((Kd.slice 3 (Kd.int .i64))).sz = 1 from rfl, Nat.mul_one] at hv541_0
                               replace hv541_0 := Option.some.inj (hv541_0.symm.trans hx541_0)
                               injection hv541_0 with hva_ hvn_ hvc_
                               rw [hva_] at ge541_0
                               rw [hvc_] at ul541_0
                               have HL541_0 := zh (show Kd.V (Kd.int .i64) 3 _ w.heap.size _ _ (rd_L4 t527 x20_3) from Kd.V_mk ul541_0 ge541_0)
                               clear hva_ hvn_ hvc_ ge541_0 ul541_0 hcc541 hce541
                               have HR541_0 := zh hi541_0
                               have HC541_0 := zh hl541_0
                               clear hi541_0 hl541_0
                               replace p541 := eq_true p541
                               replace q541 := eq_true q541
                               try go_wp2
                               replace HO_7 := zh (Kd.R_drew HO_7.out)
                               replace HO_8 := zh (Kd.N_drew HO_8.out)
                               replace HO_9 := zh (Kd.N_drew HO_9.out)
                               replace HO_13 := zh (Kd.V_drew HO_13.out)
                               replace HL541_0 := zh (Kd.V_drew HL541_0.out)
                               replace BK511 := zh (blk_drew BK511.out)
                               replace HR539_0 := zh (Kd.C_drew HR539_0.out)
                               replace HR540_0 := zh (Kd.C_drew HR540_0.out)
                               replace HR541_0 := zh (Kd.C_drew HR541_0.out)
                               replace HB := zh (below_drew1 HB.out)
                               have p542 : 0 ≤ (x20_3 : Int) := of_decide_eq_true zs
                               have q542 : x20_3 < (t527.length : Int) := of_decide_eq_true zs
                               obtain ⟨ad542, A542_0, c542_0, e542, hx542_0, hl542_0, hi542_0⟩ := at_L4 (Kd.V_reads' HO_13.out).2.2 x20_3 p542 q542
                               obtain rfl : ad539 = ad542 := (by injection e542)
                               obtain ⟨ce542, hce542, hMe542, hcc542⟩ := Kd.V_get HO_13.out [] x20_3 p542 dTr14
                               obtain ⟨ua542_0, uc542_0, rfl, ul542_0, ge542_0⟩ := Kd.FK_slice_open hMe542
                               have hv542_0 := hcc542 0 _ rfl
                               rw [Nat.add_zero, show ((Kd.slice 3 (Kd.int .i64))).sz = 1 from rfl, Nat.mul_one] at hv542_0
                               replace hv542_0 := Option.some.inj (hv542_0.symm.trans hx542_0)
                               injection hv542_0 with hva_ hvn_ hvc_
                               rw [hva_] at ge542_0
                               rw [hvc_] at ul542_0
                               have HL542_0 := zh (show Kd.V (Kd.int .i64) 3 _ w.heap.size _ _ (rd_L4 t527 x20_3) from Kd.V_mk ul542_0 ge542_0)
                               clear hva_ hvn_ hvc_ ge542_0 ul542_0 hcc542 hce542
                               have HR542_0 := zh hi542_0
                               have HC542_0 := zh hl542_0
                               clear hi542_0 hl542_0
                               replace p542 := eq_true p542
                               replace q542 := eq_true q542
                               have p543 : 0 ≤ (x21_4 : Int) := of_decide_eq_true zs
                               have q543 : x21_4 < ((rd_L4 t527 x20_3).length : Int) := of_decide_eq_true zs
                               obtain ⟨ad543, e543, hx543_0⟩ := Kd.at_int dTr2 x21_4 p543 q543
                               cases e543
                               replace p543 := eq_true p543
                               replace q543 := eq_true q543
                               have p544 : 0 ≤ (x20_3 : Int) := of_decide_eq_true zs
                               have q544 : x20_3 < (t521.length : Int) := of_decide_eq_true zs
                               obtain ⟨ad544, A544_0, c544_0, e544, hx544_0, hl544_0, hi544_0⟩ := at_L4 (Kd.N_reads' HO_9.out).2.2 x20_3 p544 q544
                               obtain rfl : ad540 = ad544 := (by injection e544)
                               obtain ⟨ce544, hce544, hMe544, hcc544⟩ := Kd.N_get HO_9.out [] x20_3 p544 dTr15
                               obtain ⟨ua544_0, uc544_0, rfl, ul544_0, ge544_0⟩ := Kd.FK_slice_open hMe544
                               have hv544_0 := hcc544 0 _ rfl
                               rw [Nat.add_zero, show ((Kd.slice 3 (Kd.int .i64))).sz = 1 from rfl, Nat.mul_one] at hv544_0
                               replace hv544_0 := Option.some.inj (hv544_0.symm.trans hx544_0)
                               injection hv544_0 with hva_ hvn_ hvc_
                               rw [hva_] at ge544_0
                               rw [hvc_] at ul544_0
                               have HL544_0 := zh (show Kd.V (Kd.int .i64) 3 _ w.heap.size _ _ (rd_L4 t521 x20_3) from Kd.V_mk ul544_0 ge544_0)
                               clear hva_ hvn_ hvc_ ge544_0 ul544_0 hcc544 hce544
                               have HR544_0 := zh hi544_0
                               have HC544_0 := zh hl544_0
                               clear hi544_0 hl544_0
                               replace p544 := eq_true p544
                               replace q544 := eq_true q544
                               have p545 : 0 ≤ (x21_4 : Int) := of_decide_eq_true zs
                               have q545 : x21_4 < ((rd_L4 t521 x20_3).length : Int) := of_decide_eq_true zs
                               obtain ⟨ad545, e545, hx545_0⟩ := Kd.at_int dTr1 x21_4 p545 q545
                               cases e545
                               replace p545 := eq_true p545
                               replace q545 := eq_true q545
                               have p546 : 0 ≤ (x20_3 : Int) := of_decide_eq_true zs
                               have q546 : x20_3 < (t527.length : Int) := of_decide_eq_true zs
                               obtain ⟨ad546, A546_0, c546_0, e546, hx546_0, hl546_0, hi546_0⟩ := at_L4 (Kd.V_reads' HO_13.out).2.2 x20_3 p546 q546
                               obtain rfl : ad539 = ad546 := (by injection e546)
                               obtain ⟨ce546, hce546, hMe546, hcc546⟩ := Kd.V_get HO_13.out [] x20_3 p546 dTr17
                               obtain ⟨ua546_0, uc546_0, rfl, ul546_0, ge546_0⟩ := Kd.FK_slice_open hMe546
                               have hv546_0 := hcc546 0 _ rfl
                               rw [Nat.add_zero, show ((Kd.slice 3 (Kd.int .i64))).sz = 1 from rfl, Nat.mul_one] at hv546_0
                               replace hv546_0 := Option.some.inj (hv546_0.symm.trans hx546_0)
                               injection hv546_0 with hva_ hvn_ hvc_
                               rw [hva_] at ge546_0
                               rw [hvc_] at ul546_0
                               have HL546_0 := zh (show Kd.V (Kd.int .i64) 3 _ w.heap.size _ _ (rd_L4 t527 x20_3) from Kd.V_mk ul546_0 ge546_0)
                               clear hva_ hvn_ hvc_ ge546_0 ul546_0 hcc546 hce546
                               have HR546_0 := zh hi546_0
                               have HC546_0 := zh hl546_0
                               clear hi546_0 hl546_0
                               replace p546 := eq_true p546
                               replace q546 := eq_true q546
                               have ea_ := Option.some.inj (hx542_0.symm.trans hx546_0)
                               injection ea_ with ea_ en_ ec_
                               subst ea_
                               subst ec_
                               clear en_
                               have p547 : 0 ≤ (x21_4 : Int) := of_decide_eq_true zs
                               have q547 : x21_4 < ((rd_L4 t527 x20_3).length : Int) := of_decide_eq_true zs
                               obtain ⟨ad547, e547, hx547_0⟩ := Kd.at_int dTr5 x21_4 p547 q547
                               cases e547
                               replace p547 := eq_true p547
                               replace q547 := eq_true q547
                               have p548 : 0 ≤ (x20_3 : Int) := of_decide_eq_true zs
                               have q548 : x20_3 < (t518.length : Int) := of_decide_eq_true zs
                               obtain ⟨ad548, A548_1, c548_1, e548, hx548_0, hx548_1, hl548_1, hi548_1⟩ := at_T60 (Kd.N_reads' HO_8.out).2.2 x20_3 p548 q548
                               cases e548
                               obtain ⟨ce548, hce548, hMe548, hcc548⟩ := Kd.N_get HO_8.out z60 x20_3 p548 (by first | exact q548 | exact of_decide_eq_true zs | (have e_ := (Kd.N_reads' HO_8.out).1; omega))
                               obtain ⟨ua548_1, uc548_1, rfl, ul548_1, ge548_1⟩ := k60_openF hMe548
                               have hv548_1 := hcc548 1 _ rfl
                               rw [add_field _ _ 1 (by omega)] at hv548_1
                               replace hv548_1 := Option.some.inj (hv548_1.symm.trans hx548_1)
                               injection hv548_1 with hva_ hvn_ hvc_
                               rw [hva_] at ge548_1
                               rw [hvc_] at ul548_1
                               have HL548_1 := zh (show Kd.V (Kd.int .i64) 3 _ w.heap.size _ _ ((rd_T60 t518 x20_3).f1) from Kd.V_mk ul548_1 ge548_1)
                               clear hva_ hvn_ hvc_ ge548_1 ul548_1 hcc548 hce548
                               have HR548_1 := zh hi548_1
                               have HC548_1 := zh hl548_1
                               clear hi548_1 hl548_1
                               replace p548 := eq_true p548
                               replace q548 := eq_true q548
                               have p549 : 0 ≤ (x21_4 : Int) := of_decide_eq_true zs
                               have q549 : x21_4 < (((rd_T60 t518 x20_3).f1).length : Int) := of_decide_eq_true zs
                               obtain ⟨ad549, e549, hx549_0⟩ := Kd.at_int (by repeat (first | (with_reducible exact HR548_1.out) | (with_reducible refine Kd.C_alloc ?_ _) | (with_reducible refine Kd.C_drewN ?_ _) | (with_reducible refine Kd.C_drew ?_) | exact HR548_1.out)) x21_4 p549 q549
                               cases e549
                               replace p549 := eq_true p549
                               replace q549 := eq_true q549
                               refine start_ (n := 36) (S := fun w' => w'.cell? (ad539.add (x20_3).toNat) = some (.slice (some ad543) (rd_L4 t527 x20_3).length c542_0) ∧ w'.cell? (ad543.add (x21_4).toNat) = some (.int .i64 (rd (rd_L4 t527 x20_3) x21_4)) ∧ w'.cell? (ad540.add (x20_3).toNat) = some (.slice (some ad545) (rd_L4 t521 x20_3).length c544_0) ∧ w'.cell? (ad545.add (x21_4).toNat) = some (.int .i64 (rd (rd_L4 t521 x20_3) x21_4)) ∧ w'.cell? (ad539.add (x20_3).toNat) = some (.slice (some ad543) (rd_L4 t527 x20_3).length c542_0) ∧ w'.cell? (ad543.add (x21_4).toNat) = some (.int .i64 (rd (rd_L4 t527 x20_3) x21_4)) ∧ w'.cell? (ad548.add ((x20_3).toNat * 2)) = some (.int .i64 ((rd_T60 t518 x20_3).f0)) ∧ w'.cell? ⟨(ad548.add ((x20_3).toNat * 2)).block, (ad548.add ((x20_3).toNat * 2)).off + 1, none⟩ = some (.slice (some ad549) ((rd_T60 t518 x20_3).f1).length c548_1) ∧ w'.cell? (ad549.add (x21_4).toNat) = some (.int .i64 (rd ((rd_T60 t518 x20_3).f1) x21_4))) (ds := []) (Array.replicate 36 false) zk rfl rfl ⟨hx542_0, hx543_0, hx544_0, hx545_0, hx546_0, hx547_0, hx548_0, hx548_1, hx549_0⟩ (fun hHeld => ?_); refine with_tabW saronlaw06_KernelTrue.tab24 saronlaw06_KernelTrue.bits24 (fun HT_ HW_ => ?_)
                               generalize wr.drew = w69 at HO_7 HO_8 HO_9 HO_13 HL541_0 BK511 HR539_0 HR540_0 HR541_0 HB HL542_0 HL544_0 HL546_0 HL548_1 HR542_0 HR544_0 HR546_0 HR548_1 hx542_0 hx543_0 hx544_0 hx545_0 hx546_0 hx547_0 hx548_0 hx548_1 hx549_0 hHeld ⊢
                               refine zu 0 ?_
                               refine zu 1 ?_
                               refine zu 2 ?_
                               refine zu 4 ?_
                               refine zu 7 ?_
                               refine zu 8 ?_
                               refine zu 9 ?_
                               refine zu 11 ?_
                               refine zt 3 ?_
                               refine zu 5 ?_
                               refine zt 6 ?_
                               refine zt 10 ?_
                               refine zu 12 ?_
                               refine zt 13 ?_
                               refine zu 14 ?_
                               refine zu 15 ?_
                               refine zu 16 ?_
                               refine zu 17 ?_
                               refine zu 18 ?_
                               refine zu 20 ?_
                               refine zt 19 ?_
                               refine zu 21 ?_
                               refine zt 22 ?_
                               refine zu 23 ?_
                               refine zu 24 ?_
                               refine zu 25 ?_
                               refine zu 26 ?_
                               refine zu 27 ?_
                               refine zu 28 ?_
                               refine zu 30 ?_
                               refine zt 29 ?_
                               refine zu 31 ?_
                               refine zt 32 ?_
                               refine zu 33 ?_
                               refine zu 34 ?_
                               refine zu 35 ?_
                               refine zd ?_
                               try go_wp2
                               go_roundg k4
                               case measure => have := HJ11.out; have := HK2.out; have := HK3.out; have := HK4.out; omega
                               case rel => exact ⟨(wrap64 (x21_4 + 1)), ze, H', ⟨by have := HJ11.out; have := HK2.out; have := HK3.out; have := HK4.out; omega⟩, ⟨zR HO_7⟩, ⟨zN HO_8⟩, ⟨zN HO_9⟩, ⟨zV HO_13⟩, ⟨zc BK511⟩, ⟨by repeat (first | (with_reducible exact HR539_0.out) | (with_reducible refine Kd.C_alloc ?_ _) | (with_reducible refine Kd.C_drewN ?_ _) | (with_reducible refine Kd.C_drew ?_) | exact HR539_0.out)⟩, ⟨by repeat (first | (with_reducible exact HR540_0.out) | (with_reducible refine Kd.C_alloc ?_ _) | (with_reducible refine Kd.C_drewN ?_ _) | (with_reducible refine Kd.C_drew ?_) | exact HR540_0.out)⟩, ⟨zb⟩⟩
                              ·rw [if_neg c68] at H
                               have c68b0 : ((rd ((rd_T60 t518 x20_3).f1) x21_4) == (-2)) = false := beq_eq_false_iff_ne.mpr c68
                               have c68b1 : ((rd ((rd_T60 t518 x20_3).f1) x21_4) != (-2)) = true := bne_iff_ne.mpr c68
                               obtain rfl := Option.some.inj H
                               have p541 : 0 ≤ (x20_3 : Int) := of_decide_eq_true zs
                               have q541 : x20_3 < (t527.length : Int) := of_decide_eq_true zs
                               obtain ⟨ad541, A541_0, c541_0, e541, hx541_0, hl541_0, hi541_0⟩ := at_L4 (Kd.V_reads' HO_13.out).2.2 x20_3 p541 q541
                               obtain rfl : ad539 = ad541 := (by injection e541)
                               obtain ⟨ce541, hce541, hMe541, hcc541⟩ := Kd.V_get HO_13.out [] x20_3 p541 dTr6
                               obtain ⟨ua541_0, uc541_0, rfl, ul541_0, ge541_0⟩ := Kd.FK_slice_open hMe541
                               have hv541_0 := hcc541 0 _ rfl
                               rw [Nat.add_zero, show ((Kd.slice 3 (Kd.int .i64))).sz = 1 from rfl, Nat.mul_one] at hv541_0
                               replace hv541_0 := Option.some.inj (hv541_0.symm.trans hx541_0)
                               injection hv541_0 with hva_ hvn_ hvc_
                               rw [hva_] at ge541_0
                               rw [hvc_] at ul541_0
                               have HL541_0 := zh (show Kd.V (Kd.int .i64) 3 _ w.heap.size _ _ (rd_L4 t527 x20_3) from Kd.V_mk ul541_0 ge541_0)
                               clear hva_ hvn_ hvc_ ge541_0 ul541_0 hcc541 hce541
                               have HR541_0 := zh hi541_0
                               have HC541_0 := zh hl541_0
                               clear hi541_0 hl541_0
                               replace p541 := eq_true p541
                               replace q541 := eq_true q541
                               try go_wp2
                               replace HO_7 := zh (Kd.R_drew HO_7.out)
                               replace HO_8 := zh (Kd.N_drew HO_8.out)
                               replace HO_9 := zh (Kd.N_drew HO_9.out)
                               replace HO_13 := zh (Kd.V_drew HO_13.out)
                               replace HL541_0 := zh (Kd.V_drew HL541_0.out)
                               replace BK511 := zh (blk_drew BK511.out)
                               replace HR539_0 := zh (Kd.C_drew HR539_0.out)
                               replace HR540_0 := zh (Kd.C_drew HR540_0.out)
                               replace HR541_0 := zh (Kd.C_drew HR541_0.out)
                               replace HB := zh (below_drew1 HB.out)
                               have p542 : 0 ≤ (x20_3 : Int) := of_decide_eq_true zs
                               have q542 : x20_3 < (t527.length : Int) := of_decide_eq_true zs
                               obtain ⟨ad542, A542_0, c542_0, e542, hx542_0, hl542_0, hi542_0⟩ := at_L4 (Kd.V_reads' HO_13.out).2.2 x20_3 p542 q542
                               obtain rfl : ad539 = ad542 := (by injection e542)
                               obtain ⟨ce542, hce542, hMe542, hcc542⟩ := Kd.V_get HO_13.out [] x20_3 p542 dTr14
                               obtain ⟨ua542_0, uc542_0, rfl, ul542_0, ge542_0⟩ := Kd.FK_slice_open hMe542
                               have hv542_0 := hcc542 0 _ rfl
                               rw [Nat.add_zero, show ((Kd.slice 3 (Kd.int .i64))).sz = 1 from rfl, Nat.mul_one] at hv542_0
                               replace hv542_0 := Option.some.inj (hv542_0.symm.trans hx542_0)
                               injection hv542_0 with hva_ hvn_ hvc_
                               rw [hva_] at ge542_0
                               rw [hvc_] at ul542_0
                               have HL542_0 := zh (show Kd.V (Kd.int .i64) 3 _ w.heap.size _ _ (rd_L4 t527 x20_3) from Kd.V_mk ul542_0 ge542_0)
                               clear hva_ hvn_ hvc_ ge542_0 ul542_0 hcc542 hce542
                               have HR542_0 := zh hi542_0
                               have HC542_0 := zh hl542_0
                               clear hi542_0 hl542_0
                               replace p542 := eq_true p542
                               replace q542 := eq_true q542
                               have p543 : 0 ≤ (x21_4 : Int) := of_decide_eq_true zs
                               have q543 : x21_4 < ((rd_L4 t527 x20_3).length : Int) := of_decide_eq_true zs
                               obtain ⟨ad543, e543, hx543_0⟩ := Kd.at_int dTr2 x21_4 p543 q543
                               cases e543
                               replace p543 := eq_true p543
                               replace q543 := eq_true q543
                               have p544 : 0 ≤ (x20_3 : Int) := of_decide_eq_true zs
                               have q544 : x20_3 < (t521.length : Int) := of_decide_eq_true zs
                               obtain ⟨ad544, A544_0, c544_0, e544, hx544_0, hl544_0, hi544_0⟩ := at_L4 (Kd.N_reads' HO_9.out).2.2 x20_3 p544 q544
                               obtain rfl : ad540 = ad544 := (by injection e544)
                               obtain ⟨ce544, hce544, hMe544, hcc544⟩ := Kd.N_get HO_9.out [] x20_3 p544 dTr15
                               obtain ⟨ua544_0, uc544_0, rfl, ul544_0, ge544_0⟩ := Kd.FK_slice_open hMe544
                               have hv544_0 := hcc544 0 _ rfl
                               rw [Nat.add_zero, show ((Kd.slice 3 (Kd.int .i64))).sz = 1 from rfl, Nat.mul_one] at hv544_0
                               replace hv544_0 := Option.some.inj (hv544_0.symm.trans hx544_0)
                               injection hv544_0 with hva_ hvn_ hvc_
                               rw [hva_] at ge544_0
                               rw [hvc_] at ul544_0
                               have HL544_0 := zh (show Kd.V (Kd.int .i64) 3 _ w.heap.size _ _ (rd_L4 t521 x20_3) from Kd.V_mk ul544_0 ge544_0)
                               clear hva_ hvn_ hvc_ ge544_0 ul544_0 hcc544 hce544
                               have HR544_0 := zh hi544_0
                               have HC544_0 := zh hl544_0
                               clear hi544_0 hl544_0
                               replace p544 := eq_true p544
                               replace q544 := eq_true q544
                               have p545 : 0 ≤ (x21_4 : Int) := of_decide_eq_true zs
                               have q545 : x21_4 < ((rd_L4 t521 x20_3).length : Int) := of_decide_eq_true zs
                               obtain ⟨ad545, e545, hx545_0⟩ := Kd.at_int dTr1 x21_4 p545 q545
                               cases e545
                               replace p545 := eq_true p545
                               replace q545 := eq_true q545
                               have p546 : 0 ≤ (x20_3 : Int) := of_decide_eq_true zs
                               have q546 : x20_3 < (t527.length : Int) := of_decide_eq_true zs
                               obtain ⟨ad546, A546_0, c546_0, e546, hx546_0, hl546_0, hi546_0⟩ := at_L4 (Kd.V_reads' HO_13.out).2.2 x20_3 p546 q546
                               obtain rfl : ad539 = ad546 := (by injection e546)
                               obtain ⟨ce546, hce546, hMe546, hcc546⟩ := Kd.V_get HO_13.out [] x20_3 p546 dTr17
                               obtain ⟨ua546_0, uc546_0, rfl, ul546_0, ge546_0⟩ := Kd.FK_slice_open hMe546
                               have hv546_0 := hcc546 0 _ rfl
                               rw [Nat.add_zero, show ((Kd.slice 3 (Kd.int .i64))).sz = 1 from rfl, Nat.mul_one] at hv546_0
                               replace hv546_0 := Option.some.inj (hv546_0.symm.trans hx546_0)
                               injection hv546_0 with hva_ hvn_ hvc_
                               rw [hva_] at ge546_0
                               rw [hvc_] at ul546_0
                               have HL546_0 := zh (show Kd.V (Kd.int .i64) 3 _ w.heap.size _ _ (rd_L4 t527 x20_3) from Kd.V_mk ul546_0 ge546_0)
                               clear hva_ hvn_ hvc_ ge546_0 ul546_0 hcc546 hce546
                               have HR546_0 := zh hi546_0
                               have HC546_0 := zh hl546_0
                               clear hi546_0 hl546_0
                               replace p546 := eq_true p546
                               replace q546 := eq_true q546
                               have ea_ := Option.some.inj (hx542_0.symm.trans hx546_0)
                               injection ea_ with ea_ en_ ec_
                               subst ea_
                               subst ec_
                               clear en_
                               have p547 : 0 ≤ (x21_4 : Int) := of_decide_eq_true zs
                               have q547 : x21_4 < ((rd_L4 t527 x20_3).length : Int) := of_decide_eq_true zs
                               obtain ⟨ad547, e547, hx547_0⟩ := Kd.at_int dTr5 x21_4 p547 q547
                               cases e547
                               replace p547 := eq_true p547
                               replace q547 := eq_true q547
                               have p548 : 0 ≤ (x20_3 : Int) := of_decide_eq_true zs
                               have q548 : x20_3 < (t518.length : Int) := of_decide_eq_true zs
                               obtain ⟨ad548, A548_1, c548_1, e548, hx548_0, hx548_1, hl548_1, hi548_1⟩ := at_T60 (Kd.N_reads' HO_8.out).2.2 x20_3 p548 q548
                               cases e548
                               obtain ⟨ce548, hce548, hMe548, hcc548⟩ := Kd.N_get HO_8.out z60 x20_3 p548 (by first | exact q548 | exact of_decide_eq_true zs | (have e_ := (Kd.N_reads' HO_8.out).1; omega))
                               obtain ⟨ua548_1, uc548_1, rfl, ul548_1, ge548_1⟩ := k60_openF hMe548
                               have hv548_1 := hcc548 1 _ rfl
                               rw [add_field _ _ 1 (by omega)] at hv548_1
                               replace hv548_1 := Option.some.inj (hv548_1.symm.trans hx548_1)
                               injection hv548_1 with hva_ hvn_ hvc_
                               rw [hva_] at ge548_1
                               rw [hvc_] at ul548_1
                               have HL548_1 := zh (show Kd.V (Kd.int .i64) 3 _ w.heap.size _ _ ((rd_T60 t518 x20_3).f1) from Kd.V_mk ul548_1 ge548_1)
                               clear hva_ hvn_ hvc_ ge548_1 ul548_1 hcc548 hce548
                               have HR548_1 := zh hi548_1
                               have HC548_1 := zh hl548_1
                               clear hi548_1 hl548_1
                               replace p548 := eq_true p548
                               replace q548 := eq_true q548
                               have p549 : 0 ≤ (x21_4 : Int) := of_decide_eq_true zs
                               have q549 : x21_4 < (((rd_T60 t518 x20_3).f1).length : Int) := of_decide_eq_true zs
                               obtain ⟨ad549, e549, hx549_0⟩ := Kd.at_int (by repeat (first | (with_reducible exact HR548_1.out) | (with_reducible refine Kd.C_alloc ?_ _) | (with_reducible refine Kd.C_drewN ?_ _) | (with_reducible refine Kd.C_drew ?_) | exact HR548_1.out)) x21_4 p549 q549
                               cases e549
                               replace p549 := eq_true p549
                               replace q549 := eq_true q549
                               refine start_ (n := 36) (S := fun w' => w'.cell? (ad539.add (x20_3).toNat) = some (.slice (some ad543) (rd_L4 t527 x20_3).length c542_0) ∧ w'.cell? (ad543.add (x21_4).toNat) = some (.int .i64 (rd (rd_L4 t527 x20_3) x21_4)) ∧ w'.cell? (ad540.add (x20_3).toNat) = some (.slice (some ad545) (rd_L4 t521 x20_3).length c544_0) ∧ w'.cell? (ad545.add (x21_4).toNat) = some (.int .i64 (rd (rd_L4 t521 x20_3) x21_4)) ∧ w'.cell? (ad539.add (x20_3).toNat) = some (.slice (some ad543) (rd_L4 t527 x20_3).length c542_0) ∧ w'.cell? (ad543.add (x21_4).toNat) = some (.int .i64 (rd (rd_L4 t527 x20_3) x21_4)) ∧ w'.cell? (ad548.add ((x20_3).toNat * 2)) = some (.int .i64 ((rd_T60 t518 x20_3).f0)) ∧ w'.cell? ⟨(ad548.add ((x20_3).toNat * 2)).block, (ad548.add ((x20_3).toNat * 2)).off + 1, none⟩ = some (.slice (some ad549) ((rd_T60 t518 x20_3).f1).length c548_1) ∧ w'.cell? (ad549.add (x21_4).toNat) = some (.int .i64 (rd ((rd_T60 t518 x20_3).f1) x21_4))) (ds := []) (Array.replicate 36 false) zk rfl rfl ⟨hx542_0, hx543_0, hx544_0, hx545_0, hx546_0, hx547_0, hx548_0, hx548_1, hx549_0⟩ (fun hHeld => ?_); refine with_tabW saronlaw06_KernelTrue.tab24 saronlaw06_KernelTrue.bits24 (fun HT_ HW_ => ?_)
                               generalize wr.drew = w70 at HO_7 HO_8 HO_9 HO_13 HL541_0 BK511 HR539_0 HR540_0 HR541_0 HB HL542_0 HL544_0 HL546_0 HL548_1 HR542_0 HR544_0 HR546_0 HR548_1 hx542_0 hx543_0 hx544_0 hx545_0 hx546_0 hx547_0 hx548_0 hx548_1 hx549_0 hHeld ⊢
                               refine zu 0 ?_
                               refine zu 1 ?_
                               refine zu 2 ?_
                               refine zu 4 ?_
                               refine zu 7 ?_
                               refine zu 8 ?_
                               refine zu 9 ?_
                               refine zu 11 ?_
                               refine zt 3 ?_
                               refine zu 5 ?_
                               refine zt 6 ?_
                               refine zt 10 ?_
                               refine zu 12 ?_
                               refine zt 13 ?_
                               refine zu 14 ?_
                               refine zu 15 ?_
                               refine zu 16 ?_
                               refine zu 17 ?_
                               refine zu 18 ?_
                               refine zu 20 ?_
                               refine zt 19 ?_
                               refine zu 21 ?_
                               refine zt 22 ?_
                               refine zu 23 ?_
                               refine zu 24 ?_
                               refine zu 25 ?_
                               refine zu 26 ?_
                               refine zu 27 ?_
                               refine zu 28 ?_
                               refine zu 30 ?_
                               refine zt 29 ?_
                               refine zu 31 ?_
                               refine zt 32 ?_
                               refine zu 33 ?_
                               refine zu 34 ?_
                               refine zu 35 ?_
                               refine zd ?_
                               try go_wp2
                               go_ret
                               exact ⟨zf, zb⟩
                             ·rw [if_neg c67] at H
                              exact absurd H (by simp)
                            ·rw [if_neg c66] at H
                             exact absurd H (by simp)
                           ·rw [if_neg c65] at H
                            have c65b0 : ((rd (rd_L4 t527 x20_3) x21_4) == (-2)) = false := beq_eq_false_iff_ne.mpr c65
                            have c65b1 : ((rd (rd_L4 t527 x20_3) x21_4) != (-2)) = true := bne_iff_ne.mpr c65
                            obtain rfl := Option.some.inj H
                            have p541 : 0 ≤ (x20_3 : Int) := of_decide_eq_true zs
                            have q541 : x20_3 < (t527.length : Int) := of_decide_eq_true zs
                            obtain ⟨ad541, A541_0, c541_0, e541, hx541_0, hl541_0, hi541_0⟩ := at_L4 (Kd.V_reads' HO_13.out).2.2 x20_3 p541 q541
                            obtain rfl : ad539 = ad541 := (by injection e541)
                            obtain ⟨ce541, hce541, hMe541, hcc541⟩ := Kd.V_get HO_13.out [] x20_3 p541 dTr6
                            obtain ⟨ua541_0, uc541_0, rfl, ul541_0, ge541_0⟩ := Kd.FK_slice_open hMe541
                            have hv541_0 := hcc541 0 _ rfl
                            rw [Nat.add_zero, show ((Kd.slice 3 (Kd.int .i64))).sz = 1 from rfl, Nat.mul_one] at hv541_0
                            replace hv541_0 := Option.some.inj (hv541_0.symm.trans hx541_0)
                            injection hv541_0 with hva_ hvn_ hvc_
                            rw [hva_] at ge541_0
                            rw [hvc_] at ul541_0
                            have HL541_0 := zh (show Kd.V (Kd.int .i64) 3 _ w.heap.size _ _ (rd_L4 t527 x20_3) from Kd.V_mk ul541_0 ge541_0)
                            clear hva_ hvn_ hvc_ ge541_0 ul541_0 hcc541 hce541
                            have HR541_0 := zh hi541_0
                            have HC541_0 := zh hl541_0
                            clear hi541_0 hl541_0
                            replace p541 := eq_true p541
                            replace q541 := eq_true q541
                            try go_wp2
                            replace HO_7 := zh (Kd.R_drew HO_7.out)
                            replace HO_8 := zh (Kd.N_drew HO_8.out)
                            replace HO_9 := zh (Kd.N_drew HO_9.out)
                            replace HO_13 := zh (Kd.V_drew HO_13.out)
                            replace HL541_0 := zh (Kd.V_drew HL541_0.out)
                            replace BK511 := zh (blk_drew BK511.out)
                            replace HR539_0 := zh (Kd.C_drew HR539_0.out)
                            replace HR540_0 := zh (Kd.C_drew HR540_0.out)
                            replace HR541_0 := zh (Kd.C_drew HR541_0.out)
                            replace HB := zh (below_drew1 HB.out)
                            have p542 : 0 ≤ (x20_3 : Int) := of_decide_eq_true zs
                            have q542 : x20_3 < (t527.length : Int) := of_decide_eq_true zs
                            obtain ⟨ad542, A542_0, c542_0, e542, hx542_0, hl542_0, hi542_0⟩ := at_L4 (Kd.V_reads' HO_13.out).2.2 x20_3 p542 q542
                            obtain rfl : ad539 = ad542 := (by injection e542)
                            obtain ⟨ce542, hce542, hMe542, hcc542⟩ := Kd.V_get HO_13.out [] x20_3 p542 dTr14
                            obtain ⟨ua542_0, uc542_0, rfl, ul542_0, ge542_0⟩ := Kd.FK_slice_open hMe542
                            have hv542_0 := hcc542 0 _ rfl
                            rw [Nat.add_zero, show ((Kd.slice 3 (Kd.int .i64))).sz = 1 from rfl, Nat.mul_one] at hv542_0
                            replace hv542_0 := Option.some.inj (hv542_0.symm.trans hx542_0)
                            injection hv542_0 with hva_ hvn_ hvc_
                            rw [hva_] at ge542_0
                            rw [hvc_] at ul542_0
                            have HL542_0 := zh (show Kd.V (Kd.int .i64) 3 _ w.heap.size _ _ (rd_L4 t527 x20_3) from Kd.V_mk ul542_0 ge542_0)
                            clear hva_ hvn_ hvc_ ge542_0 ul542_0 hcc542 hce542
                            have HR542_0 := zh hi542_0
                            have HC542_0 := zh hl542_0
                            clear hi542_0 hl542_0
                            replace p542 := eq_true p542
                            replace q542 := eq_true q542
                            have p543 : 0 ≤ (x21_4 : Int) := of_decide_eq_true zs
                            have q543 : x21_4 < ((rd_L4 t527 x20_3).length : Int) := of_decide_eq_true zs
                            obtain ⟨ad543, e543, hx543_0⟩ := Kd.at_int dTr2 x21_4 p543 q543
                            cases e543
                            replace p543 := eq_true p543
                            replace q543 := eq_true q543
                            have p544 : 0 ≤ (x20_3 : Int) := of_decide_eq_true zs
                            have q544 : x20_3 < (t521.length : Int) := of_decide_eq_true zs
                            obtain ⟨ad544, A544_0, c544_0, e544, hx544_0, hl544_0, hi544_0⟩ := at_L4 (Kd.N_reads' HO_9.out).2.2 x20_3 p544 q544
                            obtain rfl : ad540 = ad544 := (by injection e544)
                            obtain ⟨ce544, hce544, hMe544, hcc544⟩ := Kd.N_get HO_9.out [] x20_3 p544 dTr15
                            obtain ⟨ua544_0, uc544_0, rfl, ul544_0, ge544_0⟩ := Kd.FK_slice_open hMe544
                            have hv544_0 := hcc544 0 _ rfl
                            rw [Nat.add_zero, show ((Kd.slice 3 (Kd.int .i64))).sz = 1 from rfl, Nat.mul_one] at hv544_0
                            replace hv544_0 := Option.some.inj (hv544_0.symm.trans hx544_0)
                            injection hv544_0 with hva_ hvn_ hvc_
                            rw [hva_] at ge544_0
                            rw [hvc_] at ul544_0
                            have HL544_0 := zh (show Kd.V (Kd.int .i64) 3 _ w.heap.size _ _ (rd_L4 t521 x20_3) from Kd.V_mk ul544_0 ge544_0)
                            clear hva_ hvn_ hvc_ ge544_0 ul544_0 hcc544 hce544
                            have HR544_0 := zh hi544_0
                            have HC544_0 := zh hl544_0
                            clear hi544_0 hl544_0
                            replace p544 := eq_true p544
                            replace q544 := eq_true q544
                            have p545 : 0 ≤ (x21_4 : Int) := of_decide_eq_true zs
                            have q545 : x21_4 < ((rd_L4 t521 x20_3).length : Int) := of_decide_eq_true zs
                            obtain ⟨ad545, e545, hx545_0⟩ := Kd.at_int dTr1 x21_4 p545 q545
                            cases e545
                            replace p545 := eq_true p545
                            replace q545 := eq_true q545
                            have p546 : 0 ≤ (x20_3 : Int) := of_decide_eq_true zs
                            have q546 : x20_3 < (t527.length : Int) := of_decide_eq_true zs
                            obtain ⟨ad546, A546_0, c546_0, e546, hx546_0, hl546_0, hi546_0⟩ := at_L4 (Kd.V_reads' HO_13.out).2.2 x20_3 p546 q546
                            obtain rfl : ad539 = ad546 := (by injection e546)
                            obtain ⟨ce546, hce546, hMe546, hcc546⟩ := Kd.V_get HO_13.out [] x20_3 p546 dTr17
                            obtain ⟨ua546_0, uc546_0, rfl, ul546_0, ge546_0⟩ := Kd.FK_slice_open hMe546
                            have hv546_0 := hcc546 0 _ rfl
                            rw [Nat.add_zero, show ((Kd.slice 3 (Kd.int .i64))).sz = 1 from rfl, Nat.mul_one] at hv546_0
                            replace hv546_0 := Option.some.inj (hv546_0.symm.trans hx546_0)
                            injection hv546_0 with hva_ hvn_ hvc_
                            rw [hva_] at ge546_0
                            rw [hvc_] at ul546_0
                            have HL546_0 := zh (show Kd.V (Kd.int .i64) 3 _ w.heap.size _ _ (rd_L4 t527 x20_3) from Kd.V_mk ul546_0 ge546_0)
                            clear hva_ hvn_ hvc_ ge546_0 ul546_0 hcc546 hce546
                            have HR546_0 := zh hi546_0
                            have HC546_0 := zh hl546_0
                            clear hi546_0 hl546_0
                            replace p546 := eq_true p546
                            replace q546 := eq_true q546
                            have ea_ := Option.some.inj (hx542_0.symm.trans hx546_0)
                            injection ea_ with ea_ en_ ec_
                            subst ea_
                            subst ec_
                            clear en_
                            have p547 : 0 ≤ (x21_4 : Int) := of_decide_eq_true zs
                            have q547 : x21_4 < ((rd_L4 t527 x20_3).length : Int) := of_decide_eq_true zs
                            obtain ⟨ad547, e547, hx547_0⟩ := Kd.at_int dTr5 x21_4 p547 q547
                            cases e547
                            replace p547 := eq_true p547
                            replace q547 := eq_true q547
                            refine start_ (n := 36) (S := fun w' => w'.cell? (ad539.add (x20_3).toNat) = some (.slice (some ad543) (rd_L4 t527 x20_3).length c542_0) ∧ w'.cell? (ad543.add (x21_4).toNat) = some (.int .i64 (rd (rd_L4 t527 x20_3) x21_4)) ∧ w'.cell? (ad540.add (x20_3).toNat) = some (.slice (some ad545) (rd_L4 t521 x20_3).length c544_0) ∧ w'.cell? (ad545.add (x21_4).toNat) = some (.int .i64 (rd (rd_L4 t521 x20_3) x21_4)) ∧ w'.cell? (ad539.add (x20_3).toNat) = some (.slice (some ad543) (rd_L4 t527 x20_3).length c542_0) ∧ w'.cell? (ad543.add (x21_4).toNat) = some (.int .i64 (rd (rd_L4 t527 x20_3) x21_4))) (ds := []) (Array.replicate 36 false) zk rfl rfl ⟨hx542_0, hx543_0, hx544_0, hx545_0, hx546_0, hx547_0⟩ (fun hHeld => ?_); refine with_tabW saronlaw06_KernelTrue.tab24 saronlaw06_KernelTrue.bits24 (fun HT_ HW_ => ?_)
                            generalize wr.drew = w71 at HO_7 HO_8 HO_9 HO_13 HL541_0 BK511 HR539_0 HR540_0 HR541_0 HB HL542_0 HL544_0 HL546_0 HR542_0 HR544_0 HR546_0 hx542_0 hx543_0 hx544_0 hx545_0 hx546_0 hx547_0 hHeld ⊢
                            refine zu 0 ?_
                            refine zu 1 ?_
                            refine zu 2 ?_
                            refine zu 4 ?_
                            refine zu 7 ?_
                            refine zu 8 ?_
                            refine zu 9 ?_
                            refine zu 11 ?_
                            refine zt 3 ?_
                            refine zu 5 ?_
                            refine zt 6 ?_
                            refine zt 10 ?_
                            refine zu 12 ?_
                            refine zt 13 ?_
                            refine zu 14 ?_
                            refine zu 15 ?_
                            refine zu 16 ?_
                            refine zu 17 ?_
                            refine zu 18 ?_
                            refine zu 20 ?_
                            refine zt 19 ?_
                            refine zu 21 ?_
                            refine zt 22 ?_
                            refine zu 23 ?_
                            refine zu 24 ?_
                            refine zn 25 ?_
                            refine zn 26 ?_
                            refine zn 27 ?_
                            refine zn 28 ?_
                            refine zn 29 ?_
                            refine zn 30 ?_
                            refine zn 31 ?_
                            refine zn 32 ?_
                            refine zn 33 ?_
                            refine zu 34 ?_
                            refine zu 35 ?_
                            refine zd ?_
                            try go_wp2
                            go_ret
                            exact ⟨zf, zb⟩
                         ·rw [if_neg c62] at H
                          exact absurd H (by simp)
                        ·rw [if_neg c61] at H
                         exact absurd H (by simp)
                       ·rw [if_neg c60] at H
                        exact absurd H (by simp)
                      ·rw [if_neg c59] at H
                       have c59b0 : decide (x21_4 < ((rd_L4 t527 x20_3).length : Int)) = false := decide_eq_false c59
                       clear c59
                       have H' := zh H
                       clear H
                       have p541 : 0 ≤ (x20_3 : Int) := of_decide_eq_true zs
                       have q541 : x20_3 < (t527.length : Int) := of_decide_eq_true zs
                       obtain ⟨ad541, A541_0, c541_0, e541, hx541_0, hl541_0, hi541_0⟩ := at_L4 (Kd.V_reads' HO_13.out).2.2 x20_3 p541 q541
                       obtain rfl : ad539 = ad541 := (by injection e541)
                       obtain ⟨ce541, hce541, hMe541, hcc541⟩ := Kd.V_get HO_13.out [] x20_3 p541 dTr6
                       obtain ⟨ua541_0, uc541_0, rfl, ul541_0, ge541_0⟩ := Kd.FK_slice_open hMe541
                       have hv541_0 := hcc541 0 _ rfl
                       rw [Nat.add_zero, show ((Kd.slice 3 (Kd.int .i64))).sz = 1 from rfl, Nat.mul_one] at hv541_0
                       replace hv541_0 := Option.some.inj (hv541_0.symm.trans hx541_0)
                       injection hv541_0 with hva_ hvn_ hvc_
                       rw [hva_] at ge541_0
                       rw [hvc_] at ul541_0
                       have HL541_0 := zh (show Kd.V (Kd.int .i64) 3 _ w.heap.size _ _ (rd_L4 t527 x20_3) from Kd.V_mk ul541_0 ge541_0)
                       clear hva_ hvn_ hvc_ ge541_0 ul541_0 hcc541 hce541
                       have HR541_0 := zh hi541_0
                       have HC541_0 := zh hl541_0
                       clear hi541_0 hl541_0
                       replace p541 := eq_true p541
                       replace q541 := eq_true q541
                       go_wp2
                       go_roundg k4
                       case measure => have := HJ11.out; have := HK2.out; have := HK3.out; have := HK4.out; omega
                       case rel => exact ⟨(wrap64 (x20_3 + 1)), ze, H', ⟨by have := HJ11.out; have := HK2.out; have := HK3.out; have := HK4.out; omega⟩, ⟨zR HO_7⟩, ⟨zN HO_8⟩, ⟨zN HO_9⟩, ⟨zV HO_13⟩, ⟨zc BK511⟩, ⟨zb⟩⟩
                     ·rw [if_neg c58] at H
                      exact absurd H (by simp)
                    ·rw [if_neg c57] at H
                     exact absurd H (by simp)
                ·rw [if_neg c53] at H
                 have c53b0 : (((rd_L4 t527 x20_3).length : Int) == ((rd_L4 t521 x20_3).length : Int)) = false := beq_eq_false_iff_ne.mpr c53
                 have c53b1 : (((rd_L4 t527 x20_3).length : Int) != ((rd_L4 t521 x20_3).length : Int)) = true := bne_iff_ne.mpr c53
                 have c53b2 : ((rd_L4 t527 x20_3).length == (rd_L4 t521 x20_3).length) = false := by first | simpa using c53 | (simp at c53 ⊢; omega)
                 obtain rfl := Option.some.inj H
                 obtain ⟨Ao72, co72, eo72⟩ := Kd.V_slice HO_13.out
                 subst eo72
                 try go_wp2
                 replace HO_7 := zh (Kd.R_drew HO_7.out)
                 replace HO_8 := zh (Kd.N_drew HO_8.out)
                 replace HO_9 := zh (Kd.N_drew HO_9.out)
                 replace HO_13 := zh (Kd.V_drew HO_13.out)
                 replace BK511 := zh (blk_drew BK511.out)
                 replace HB := zh (below_drew1 HB.out)
                 have p539 : 0 ≤ (x20_3 : Int) := of_decide_eq_true zs
                 have q539 : x20_3 < (t527.length : Int) := of_decide_eq_true zs
                 obtain ⟨ad539, A539_0, c539_0, e539, hx539_0, hl539_0, hi539_0⟩ := at_L4 (Kd.V_reads' HO_13.out).2.2 x20_3 p539 q539
                 cases e539
                 obtain ⟨ce539, hce539, hMe539, hcc539⟩ := Kd.V_get HO_13.out [] x20_3 p539 (by first | exact q539 | exact of_decide_eq_true zs | (have e_ := (Kd.V_reads' HO_13.out).1; omega))
                 obtain ⟨ua539_0, uc539_0, rfl, ul539_0, ge539_0⟩ := Kd.FK_slice_open hMe539
                 have hv539_0 := hcc539 0 _ rfl
                 rw [Nat.add_zero, show ((Kd.slice 3 (Kd.int .i64))).sz = 1 from rfl, Nat.mul_one] at hv539_0
                 replace hv539_0 := Option.some.inj (hv539_0.symm.trans hx539_0)
                 injection hv539_0 with hva_ hvn_ hvc_
                 rw [hva_] at ge539_0
                 rw [hvc_] at ul539_0
                 have HL539_0 := zh (show Kd.V (Kd.int .i64) 3 _ w.heap.size _ _ (rd_L4 t527 x20_3) from Kd.V_mk ul539_0 ge539_0)
                 clear hva_ hvn_ hvc_ ge539_0 ul539_0 hcc539 hce539
                 have HR539_0 := zh hi539_0
                 have HC539_0 := zh hl539_0
                 clear hi539_0 hl539_0
                 replace p539 := eq_true p539
                 replace q539 := eq_true q539
                 obtain ⟨Ao74, co74, eo74⟩ := Kd.N_slice HO_9.out
                 (first | subst eo74 | (injection eo74 with f1_ f2_ f3_; have f4_ := f1_.symm; have f5_ := f3_.symm; clear f1_ f2_ f3_; subst f4_; subst f5_))
                 have p540 : 0 ≤ (x20_3 : Int) := of_decide_eq_true zs
                 have q540 : x20_3 < (t521.length : Int) := of_decide_eq_true zs
                 obtain ⟨ad540, A540_0, c540_0, e540, hx540_0, hl540_0, hi540_0⟩ := at_L4 (Kd.N_reads' HO_9.out).2.2 x20_3 p540 q540
                 cases e540
                 obtain ⟨ce540, hce540, hMe540, hcc540⟩ := Kd.N_get HO_9.out [] x20_3 p540 (by first | exact q540 | exact of_decide_eq_true zs | (have e_ := (Kd.N_reads' HO_9.out).1; omega))
                 obtain ⟨ua540_0, uc540_0, rfl, ul540_0, ge540_0⟩ := Kd.FK_slice_open hMe540
                 have hv540_0 := hcc540 0 _ rfl
                 rw [Nat.add_zero, show ((Kd.slice 3 (Kd.int .i64))).sz = 1 from rfl, Nat.mul_one] at hv540_0
                 replace hv540_0 := Option.some.inj (hv540_0.symm.trans hx540_0)
                 injection hv540_0 with hva_ hvn_ hvc_
                 rw [hva_] at ge540_0
                 rw [hvc_] at ul540_0
                 have HL540_0 := zh (show Kd.V (Kd.int .i64) 3 _ w.heap.size _ _ (rd_L4 t521 x20_3) from Kd.V_mk ul540_0 ge540_0)
                 clear hva_ hvn_ hvc_ ge540_0 ul540_0 hcc540 hce540
                 have HR540_0 := zh hi540_0
                 have HC540_0 := zh hl540_0
                 clear hi540_0 hl540_0
                 replace p540 := eq_true p540
                 replace q540 := eq_true q540
                 refine start_ (n := 11) (S := fun w' => w'.cell? (ad539.add (x20_3).toNat) = some (.slice A539_0 (rd_L4 t527 x20_3).length c539_0) ∧ w'.cell? (ad540.add (x20_3).toNat) = some (.slice A540_0 (rd_L4 t521 x20_3).length c540_0)) (ds := []) (Array.replicate 11 false) zk rfl rfl ⟨hx539_0, hx540_0⟩ (fun hHeld => ?_); refine with_tabW saronlaw06_KernelTrue.tab19 saronlaw06_KernelTrue.bits19 (fun HT_ HW_ => ?_)
                 generalize wr.drew = w73 at HO_7 HO_8 HO_9 HO_13 BK511 HB HL539_0 HL540_0 HR539_0 HR540_0 hx539_0 hx540_0 hHeld ⊢
                 refine zu 0 ?_
                 refine zu 1 ?_
                 refine zu 2 ?_
                 refine zu 5 ?_
                 refine zu 6 ?_
                 refine zu 7 ?_
                 refine zt 3 ?_
                 refine zu 4 ?_
                 refine zt 8 ?_
                 refine zu 9 ?_
                 refine zu 10 ?_
                 refine zd ?_
                 try go_wp2
                 go_ret
                 exact ⟨zf, zb⟩
               ·rw [if_neg c52] at H
                exact absurd H (by simp)
              ·rw [if_neg c51] at H
               exact absurd H (by simp)
             ·rw [if_neg c50] at H
              have c50b0 : decide (x20_3 < (t527.length : Int)) = false := decide_eq_false c50
              clear c50
              replace H := Option.bind_eq_some_iff.mp H
              obtain ⟨⟨t550, t553⟩, A750, H⟩ := H
              replace H : (if t525 > 1 then (if t553 = 63 then (if (t550.length : Int) = 0 then ((saronlaw06_works.f).bind fun t554 => (some t554)) else (some false)) else (some false)) else (if t553 = 0 then ((saronref00_Equal.f k3 t550 t514).bind fun t555 => (if t555 = true then ((saronlaw06_works.f).bind fun t556 => (some t556)) else (some false))) else (some false))) = some r := H
              have A75 := zh A750
              clear A750
              by_cases c76 : t525 > 1
              ·rw [if_pos c76] at H
               have c76b0 : decide (1 < t525) = true := decide_eq_true c76
               clear c76
               by_cases c77 : t553 = 63
               ·rw [if_pos c77] at H
                have c77b0 : (t553 == 63) = true := beq_iff_eq.mpr c77
                have c77b1 : (t553 != 63) = false := bne_eq_false_iff_eq.mpr c77
                clear c77
                by_cases c78 : (t550.length : Int) = 0
                ·rw [if_pos c78] at H
                 have c78b0 : ((t550.length : Int) == 0) = true := beq_iff_eq.mpr c78
                 have c78b1 : ((t550.length : Int) != 0) = false := bne_eq_false_iff_eq.mpr c78
                 clear c78
                 replace H := Option.bind_eq_some_iff.mp H
                 obtain ⟨t554, A790, H⟩ := H
                 replace H : (some t554) = some r := H
                 have A79 := zh A790
                 clear A790
                 obtain rfl := Option.some.inj H
                 obtain ⟨Ao80, co80, eo80⟩ := Kd.V_slice HO_13.out
                 subst eo80
                 have hcz81_0 : wr.cell? ⟨gb511, 0, none⟩ = some (.int .i64 a0_0) := vb BK511 0
                 have hcz81_1 : wr.cell? ⟨gb511, 1, none⟩ = some (.int .i64 a0_1) := vb BK511 1
                 have hcz81_2 : wr.cell? ⟨gb511, 2, none⟩ = some (.int .i64 a0_2) := vb BK511 2
                 have hcz81_3 : wr.cell? ⟨gb511, 3, none⟩ = some (.slice A0_3 l0_3.length c0_3) := vb BK511 3
                 have hfz81_0 := blk_frozen BK511.out 0
                 have hfz81_1 := blk_frozen BK511.out 1
                 have hfz81_2 := blk_frozen BK511.out 2
                 have hfz81_3 := blk_frozen BK511.out 3
                 go_wp2_with (first | ((with_reducible refine gate_callee (f := 26) rfl ?_); refine goesL_ (some 177) rfl rfl Tryd.func26 zk rfl #[.agg #[.int .i64 a0_0, .int .i64 a0_1, .int .i64 a0_2, .slice A0_3 l0_3.length c0_3], .slice Ao22 t518.length co22] rfl zm ?_; (with_reducible refine (kernel_Won.calls a0_0 a0_1 a0_2 _ _ l0_3 _ _ t518 t550 t553 _ ?side1 ?side2 ?side3 ?side4 ?side5 A75.out).mono ?_); (case side1 => repeat (first | exact (Kd.C_below HR0_3.out HB.out) | (with_reducible refine Kd.C_alloc ?_ _) | (with_reducible refine Kd.C_drewN ?_ _) | (with_reducible refine Kd.C_drew ?_))); (case side2 => exact HC0_3.out); (case side3 => repeat (first | exact (Kd.N_reads' HO_8.out).2.2 | (with_reducible refine Kd.C_alloc ?_ _) | (with_reducible refine Kd.C_drewN ?_ _) | (with_reducible refine Kd.C_drew ?_))); (case side4 => exact (Kd.N_reads' HO_8.out).2.1); (case side5 => exact Glob.below HG.out zb); rintro e w82 ⟨v551, rfl, ho0, hb⟩; refine ⟨_, rfl, ?_⟩; have n0_ := zh (Kd.R_below (zR HO_7) hb); have n1_ := zh (Kd.N_below (zN HO_8) hb); have n2_ := zh (Kd.N_below (zN HO_9) hb); have n3_ := zh (Kd.V_below (zV HO_13) hb); have n4_ := zh (Kd.V_lower (Kd.V_mono (ok' := fun k_ => some k_ ≠ (.slice Ao19 t514.length co19 : Value).ownBlock ∧ some k_ ≠ (.slice Ao22 t518.length co22 : Value).ownBlock ∧ some k_ ≠ (v522 : Value).ownBlock ∧ k_ ≠ gb511) ho0 (fun k_ hk_ => ⟨(Kd.fresh' (Kd.R_lt (zR HO_7)) k_ hk_), (Kd.fresh' (Kd.N_lt (zN HO_8)) k_ hk_), (Kd.fresh' (Kd.N_lt (zN HO_9)) k_ hk_), (Kd.freshB (g := gb511) (o := .cells #[.int .i64 a0_0, .int .i64 a0_1, .int .i64 a0_2, .slice A0_3 l0_3.length c0_3] 24 (0, 0)) (zc BK511) k_ hk_)⟩)) (below_size zb)); have n5_ := zh (blk_below (g := gb511) (o := .cells #[.int .i64 a0_0, .int .i64 a0_1, .int .i64 a0_2, .slice A0_3 l0_3.length c0_3] 24 (0, 0)) (zc BK511) hb); have n6_ := zh (below_step zb hb); clear HO_7; clear HO_8; clear HO_9; clear HO_13; clear BK511; clear HB; have HO_7 := n0_; have HO_8 := n1_; have HO_9 := n2_; have HO_13 := n3_; have HO552 := n4_; have BK511 := n5_; have HB := n6_; clear n0_ n1_ n2_ n3_ n4_ n5_ n6_; (try clear hb); (try clear hb2); (try clear hk); (try clear hi); (try clear ho0); obtain ⟨Ao83, co83, eo83⟩ := Kd.V_slice HO552.out; subst eo83) | (go_at_call 21; (with_reducible refine (saronlaw06_works.calls  t554 _ ?side1 A79.out).mono ?_); (case side1 => exact Glob.below HG.out zb); rintro e w84 ⟨rfl, hb⟩; have n0_ := zh (Kd.R_below (zR HO_7) hb); have n1_ := zh (Kd.N_below (zN HO_8) hb); have n2_ := zh (Kd.N_below (zN HO_9) hb); have n3_ := zh (Kd.V_below (zV HO_13) hb); have n4_ := zh (Kd.V_below (zV HO552) hb); have n5_ := zh (blk_below (g := gb511) (o := .cells #[.int .i64 a0_0, .int .i64 a0_1, .int .i64 a0_2, .slice A0_3 l0_3.length c0_3] 24 (0, 0)) (zc BK511) hb); have n6_ := zh (below_step zb hb); clear HO_7; clear HO_8; clear HO_9; clear HO_13; clear HO552; clear BK511; clear HB; have HO_7 := n0_; have HO_8 := n1_; have HO_9 := n2_; have HO_13 := n3_; have HO552 := n4_; have BK511 := n5_; have HB := n6_; clear n0_ n1_ n2_ n3_ n4_ n5_ n6_; (try clear hb); (try clear hb2); (try clear hk); (try clear hi)))
                 go_ret
                 exact ⟨zf, zb⟩
                ·rw [if_neg c78] at H
                 have c78b0 : ((t550.length : Int) == 0) = false := beq_eq_false_iff_ne.mpr c78
                 have c78b1 : ((t550.length : Int) != 0) = true := bne_iff_ne.mpr c78
                 have c78b2 : ¬ (t550 = []) := fun h_ => c78 (by rw [h_]; rfl)
                 obtain rfl := Option.some.inj H
                 obtain ⟨Ao85, co85, eo85⟩ := Kd.V_slice HO_13.out
                 subst eo85
                 have hcz86_0 : wr.cell? ⟨gb511, 0, none⟩ = some (.int .i64 a0_0) := vb BK511 0
                 have hcz86_1 : wr.cell? ⟨gb511, 1, none⟩ = some (.int .i64 a0_1) := vb BK511 1
                 have hcz86_2 : wr.cell? ⟨gb511, 2, none⟩ = some (.int .i64 a0_2) := vb BK511 2
                 have hcz86_3 : wr.cell? ⟨gb511, 3, none⟩ = some (.slice A0_3 l0_3.length c0_3) := vb BK511 3
                 have hfz86_0 := blk_frozen BK511.out 0
                 have hfz86_1 := blk_frozen BK511.out 1
                 have hfz86_2 := blk_frozen BK511.out 2
                 have hfz86_3 := blk_frozen BK511.out 3
                 go_wp2_with (first | ((with_reducible refine gate_callee (f := 26) rfl ?_); refine goesL_ (some 177) rfl rfl Tryd.func26 zk rfl #[.agg #[.int .i64 a0_0, .int .i64 a0_1, .int .i64 a0_2, .slice A0_3 l0_3.length c0_3], .slice Ao22 t518.length co22] rfl zm ?_; (with_reducible refine (kernel_Won.calls a0_0 a0_1 a0_2 _ _ l0_3 _ _ t518 t550 t553 _ ?side1 ?side2 ?side3 ?side4 ?side5 A75.out).mono ?_); (case side1 => repeat (first | exact (Kd.C_below HR0_3.out HB.out) | (with_reducible refine Kd.C_alloc ?_ _) | (with_reducible refine Kd.C_drewN ?_ _) | (with_reducible refine Kd.C_drew ?_))); (case side2 => exact HC0_3.out); (case side3 => repeat (first | exact (Kd.N_reads' HO_8.out).2.2 | (with_reducible refine Kd.C_alloc ?_ _) | (with_reducible refine Kd.C_drewN ?_ _) | (with_reducible refine Kd.C_drew ?_))); (case side4 => exact (Kd.N_reads' HO_8.out).2.1); (case side5 => exact Glob.below HG.out zb); rintro e w87 ⟨v551, rfl, ho0, hb⟩; refine ⟨_, rfl, ?_⟩; have n0_ := zh (Kd.R_below (zR HO_7) hb); have n1_ := zh (Kd.N_below (zN HO_8) hb); have n2_ := zh (Kd.N_below (zN HO_9) hb); have n3_ := zh (Kd.V_below (zV HO_13) hb); have n4_ := zh (Kd.V_lower (Kd.V_mono (ok' := fun k_ => some k_ ≠ (.slice Ao19 t514.length co19 : Value).ownBlock ∧ some k_ ≠ (.slice Ao22 t518.length co22 : Value).ownBlock ∧ some k_ ≠ (v522 : Value).ownBlock ∧ k_ ≠ gb511) ho0 (fun k_ hk_ => ⟨(Kd.fresh' (Kd.R_lt (zR HO_7)) k_ hk_), (Kd.fresh' (Kd.N_lt (zN HO_8)) k_ hk_), (Kd.fresh' (Kd.N_lt (zN HO_9)) k_ hk_), (Kd.freshB (g := gb511) (o := .cells #[.int .i64 a0_0, .int .i64 a0_1, .int .i64 a0_2, .slice A0_3 l0_3.length c0_3] 24 (0, 0)) (zc BK511) k_ hk_)⟩)) (below_size zb)); have n5_ := zh (blk_below (g := gb511) (o := .cells #[.int .i64 a0_0, .int .i64 a0_1, .int .i64 a0_2, .slice A0_3 l0_3.length c0_3] 24 (0, 0)) (zc BK511) hb); have n6_ := zh (below_step zb hb); clear HO_7; clear HO_8; clear HO_9; clear HO_13; clear BK511; clear HB; have HO_7 := n0_; have HO_8 := n1_; have HO_9 := n2_; have HO_13 := n3_; have HO552 := n4_; have BK511 := n5_; have HB := n6_; clear n0_ n1_ n2_ n3_ n4_ n5_ n6_; (try clear hb); (try clear hb2); (try clear hk); (try clear hi); (try clear ho0); obtain ⟨Ao88, co88, eo88⟩ := Kd.V_slice HO552.out; subst eo88))
                 go_ret
                 exact ⟨zf, zb⟩
               ·rw [if_neg c77] at H
                have c77b0 : (t553 == 63) = false := beq_eq_false_iff_ne.mpr c77
                have c77b1 : (t553 != 63) = true := bne_iff_ne.mpr c77
                obtain rfl := Option.some.inj H
                obtain ⟨Ao89, co89, eo89⟩ := Kd.V_slice HO_13.out
                subst eo89
                have hcz90_0 : wr.cell? ⟨gb511, 0, none⟩ = some (.int .i64 a0_0) := vb BK511 0
                have hcz90_1 : wr.cell? ⟨gb511, 1, none⟩ = some (.int .i64 a0_1) := vb BK511 1
                have hcz90_2 : wr.cell? ⟨gb511, 2, none⟩ = some (.int .i64 a0_2) := vb BK511 2
                have hcz90_3 : wr.cell? ⟨gb511, 3, none⟩ = some (.slice A0_3 l0_3.length c0_3) := vb BK511 3
                have hfz90_0 := blk_frozen BK511.out 0
                have hfz90_1 := blk_frozen BK511.out 1
                have hfz90_2 := blk_frozen BK511.out 2
                have hfz90_3 := blk_frozen BK511.out 3
                go_wp2_with (first | ((with_reducible refine gate_callee (f := 26) rfl ?_); refine goesL_ (some 177) rfl rfl Tryd.func26 zk rfl #[.agg #[.int .i64 a0_0, .int .i64 a0_1, .int .i64 a0_2, .slice A0_3 l0_3.length c0_3], .slice Ao22 t518.length co22] rfl zm ?_; (with_reducible refine (kernel_Won.calls a0_0 a0_1 a0_2 _ _ l0_3 _ _ t518 t550 t553 _ ?side1 ?side2 ?side3 ?side4 ?side5 A75.out).mono ?_); (case side1 => repeat (first | exact (Kd.C_below HR0_3.out HB.out) | (with_reducible refine Kd.C_alloc ?_ _) | (with_reducible refine Kd.C_drewN ?_ _) | (with_reducible refine Kd.C_drew ?_))); (case side2 => exact HC0_3.out); (case side3 => repeat (first | exact (Kd.N_reads' HO_8.out).2.2 | (with_reducible refine Kd.C_alloc ?_ _) | (with_reducible refine Kd.C_drewN ?_ _) | (with_reducible refine Kd.C_drew ?_))); (case side4 => exact (Kd.N_reads' HO_8.out).2.1); (case side5 => exact Glob.below HG.out zb); rintro e w91 ⟨v551, rfl, ho0, hb⟩; refine ⟨_, rfl, ?_⟩; have n0_ := zh (Kd.R_below (zR HO_7) hb); have n1_ := zh (Kd.N_below (zN HO_8) hb); have n2_ := zh (Kd.N_below (zN HO_9) hb); have n3_ := zh (Kd.V_below (zV HO_13) hb); have n4_ := zh (Kd.V_lower (Kd.V_mono (ok' := fun k_ => some k_ ≠ (.slice Ao19 t514.length co19 : Value).ownBlock ∧ some k_ ≠ (.slice Ao22 t518.length co22 : Value).ownBlock ∧ some k_ ≠ (v522 : Value).ownBlock ∧ k_ ≠ gb511) ho0 (fun k_ hk_ => ⟨(Kd.fresh' (Kd.R_lt (zR HO_7)) k_ hk_), (Kd.fresh' (Kd.N_lt (zN HO_8)) k_ hk_), (Kd.fresh' (Kd.N_lt (zN HO_9)) k_ hk_), (Kd.freshB (g := gb511) (o := .cells #[.int .i64 a0_0, .int .i64 a0_1, .int .i64 a0_2, .slice A0_3 l0_3.length c0_3] 24 (0, 0)) (zc BK511) k_ hk_)⟩)) (below_size zb)); have n5_ := zh (blk_below (g := gb511) (o := .cells #[.int .i64 a0_0, .int .i64 a0_1, .int .i64 a0_2, .slice A0_3 l0_3.length c0_3] 24 (0, 0)) (zc BK511) hb); have n6_ := zh (below_step zb hb); clear HO_7; clear HO_8; clear HO_9; clear HO_13; clear BK511; clear HB; have HO_7 := n0_; have HO_8 := n1_; have HO_9 := n2_; have HO_13 := n3_; have HO552 := n4_; have BK511 := n5_; have HB := n6_; clear n0_ n1_ n2_ n3_ n4_ n5_ n6_; (try clear hb); (try clear hb2); (try clear hk); (try clear hi); (try clear ho0)))
                go_ret
                exact ⟨zf, zb⟩
              ·rw [if_neg c76] at H
               have c76b0 : decide (1 < t525) = false := decide_eq_false c76
               clear c76
               by_cases c92 : t553 = 0
               ·rw [if_pos c92] at H
                have c92b0 : (t553 == 0) = true := beq_iff_eq.mpr c92
                have c92b1 : (t553 != 0) = false := bne_eq_false_iff_eq.mpr c92
                clear c92
                replace H := Option.bind_eq_some_iff.mp H
                obtain ⟨t555, A930, H⟩ := H
                replace H : (if t555 = true then ((saronlaw06_works.f).bind fun t556 => (some t556)) else (some false)) = some r := H
                have A93 := zh A930
                clear A930
                by_cases c94 : t555 = true
                ·subst c94
                 have H1 : ((saronlaw06_works.f).bind fun t556 => (some t556)) = some r := by rw [if_pos rfl] at H; exact H
                 clear H
                 have H := H1
                 clear H1
                 replace H := Option.bind_eq_some_iff.mp H
                 obtain ⟨t556, A950, H⟩ := H
                 replace H : (some t556) = some r := H
                 have A95 := zh A950
                 clear A950
                 obtain rfl := Option.some.inj H
                 obtain ⟨Ao96, co96, eo96⟩ := Kd.V_slice HO_13.out
                 subst eo96
                 have hcz97_0 : wr.cell? ⟨gb511, 0, none⟩ = some (.int .i64 a0_0) := vb BK511 0
                 have hcz97_1 : wr.cell? ⟨gb511, 1, none⟩ = some (.int .i64 a0_1) := vb BK511 1
                 have hcz97_2 : wr.cell? ⟨gb511, 2, none⟩ = some (.int .i64 a0_2) := vb BK511 2
                 have hcz97_3 : wr.cell? ⟨gb511, 3, none⟩ = some (.slice A0_3 l0_3.length c0_3) := vb BK511 3
                 have hfz97_0 := blk_frozen BK511.out 0
                 have hfz97_1 := blk_frozen BK511.out 1
                 have hfz97_2 := blk_frozen BK511.out 2
                 have hfz97_3 := blk_frozen BK511.out 3
                 go_wp2_with (first | ((with_reducible refine gate_callee (f := 26) rfl ?_); refine goesL_ (some 177) rfl rfl Tryd.func26 zk rfl #[.agg #[.int .i64 a0_0, .int .i64 a0_1, .int .i64 a0_2, .slice A0_3 l0_3.length c0_3], .slice Ao22 t518.length co22] rfl zm ?_; (with_reducible refine (kernel_Won.calls a0_0 a0_1 a0_2 _ _ l0_3 _ _ t518 t550 t553 _ ?side1 ?side2 ?side3 ?side4 ?side5 A75.out).mono ?_); (case side1 => repeat (first | exact (Kd.C_below HR0_3.out HB.out) | (with_reducible refine Kd.C_alloc ?_ _) | (with_reducible refine Kd.C_drewN ?_ _) | (with_reducible refine Kd.C_drew ?_))); (case side2 => exact HC0_3.out); (case side3 => repeat (first | exact (Kd.N_reads' HO_8.out).2.2 | (with_reducible refine Kd.C_alloc ?_ _) | (with_reducible refine Kd.C_drewN ?_ _) | (with_reducible refine Kd.C_drew ?_))); (case side4 => exact (Kd.N_reads' HO_8.out).2.1); (case side5 => exact Glob.below HG.out zb); rintro e w98 ⟨v551, rfl, ho0, hb⟩; refine ⟨_, rfl, ?_⟩; have n0_ := zh (Kd.R_below (zR HO_7) hb); have n1_ := zh (Kd.N_below (zN HO_8) hb); have n2_ := zh (Kd.N_below (zN HO_9) hb); have n3_ := zh (Kd.V_below (zV HO_13) hb); have n4_ := zh (Kd.V_lower (Kd.V_mono (ok' := fun k_ => some k_ ≠ (.slice Ao19 t514.length co19 : Value).ownBlock ∧ some k_ ≠ (.slice Ao22 t518.length co22 : Value).ownBlock ∧ some k_ ≠ (v522 : Value).ownBlock ∧ k_ ≠ gb511) ho0 (fun k_ hk_ => ⟨(Kd.fresh' (Kd.R_lt (zR HO_7)) k_ hk_), (Kd.fresh' (Kd.N_lt (zN HO_8)) k_ hk_), (Kd.fresh' (Kd.N_lt (zN HO_9)) k_ hk_), (Kd.freshB (g := gb511) (o := .cells #[.int .i64 a0_0, .int .i64 a0_1, .int .i64 a0_2, .slice A0_3 l0_3.length c0_3] 24 (0, 0)) (zc BK511) k_ hk_)⟩)) (below_size zb)); have n5_ := zh (blk_below (g := gb511) (o := .cells #[.int .i64 a0_0, .int .i64 a0_1, .int .i64 a0_2, .slice A0_3 l0_3.length c0_3] 24 (0, 0)) (zc BK511) hb); have n6_ := zh (below_step zb hb); clear HO_7; clear HO_8; clear HO_9; clear HO_13; clear BK511; clear HB; have HO_7 := n0_; have HO_8 := n1_; have HO_9 := n2_; have HO_13 := n3_; have HO552 := n4_; have BK511 := n5_; have HB := n6_; clear n0_ n1_ n2_ n3_ n4_ n5_ n6_; (try clear hb); (try clear hb2); (try clear hk); (try clear hi); (try clear ho0); obtain ⟨Ao99, co99, eo99⟩ := Kd.V_slice HO552.out; subst eo99) | (go_at_call 18; (with_reducible refine (saronref00_Equal.calls k3 _ _ t550 _ _ t514 true _ ?side1 ?side2 ?side3 ?side4 A93.out).mono ?_); (case side1 => repeat (first | exact (Kd.V_reads' HO552.out).2.2 | (with_reducible refine Kd.C_alloc ?_ _) | (with_reducible refine Kd.C_drewN ?_ _) | (with_reducible refine Kd.C_drew ?_))); (case side2 => exact (Kd.V_reads' HO552.out).2.1); (case side3 => repeat (first | exact (Kd.R_reads' HO_7.out).2.2 | (with_reducible refine Kd.C_alloc ?_ _) | (with_reducible refine Kd.C_drewN ?_ _) | (with_reducible refine Kd.C_drew ?_))); (case side4 => exact (Kd.R_reads' HO_7.out).2.1); rintro e w' ⟨rfl, ⟨nd, rfl⟩⟩) | (go_at_call 21; (with_reducible refine (saronlaw06_works.calls  t556 _ ?side1 A95.out).mono ?_); (case side1 => exact Glob.below HG.out zb); rintro e w100 ⟨rfl, hb⟩; have n0_ := zh (Kd.R_below (zR HO_7) hb); have n1_ := zh (Kd.N_below (zN HO_8) hb); have n2_ := zh (Kd.N_below (zN HO_9) hb); have n3_ := zh (Kd.V_below (zV HO_13) hb); have n4_ := zh (Kd.V_below (zV HO552) hb); have n5_ := zh (blk_below (g := gb511) (o := .cells #[.int .i64 a0_0, .int .i64 a0_1, .int .i64 a0_2, .slice A0_3 l0_3.length c0_3] 24 (0, 0)) (zc BK511) hb); have n6_ := zh (below_step zb hb); clear HO_7; clear HO_8; clear HO_9; clear HO_13; clear HO552; clear BK511; clear HB; have HO_7 := n0_; have HO_8 := n1_; have HO_9 := n2_; have HO_13 := n3_; have HO552 := n4_; have BK511 := n5_; have HB := n6_; clear n0_ n1_ n2_ n3_ n4_ n5_ n6_; (try clear hb); (try clear hb2); (try clear hk); (try clear hi)))
                 go_ret
                 exact ⟨zf, zb⟩
                ·replace c94 := Bool.eq_false_iff.mpr c94
                 subst c94
                 have H1 : (some false) = some r := by rw [if_neg (show ¬ (false = true) by decide)] at H; exact H
                 clear H
                 have H := H1
                 clear H1
                 obtain rfl := Option.some.inj H
                 obtain ⟨Ao101, co101, eo101⟩ := Kd.V_slice HO_13.out
                 subst eo101
                 have hcz102_0 : wr.cell? ⟨gb511, 0, none⟩ = some (.int .i64 a0_0) := vb BK511 0
                 have hcz102_1 : wr.cell? ⟨gb511, 1, none⟩ = some (.int .i64 a0_1) := vb BK511 1
                 have hcz102_2 : wr.cell? ⟨gb511, 2, none⟩ = some (.int .i64 a0_2) := vb BK511 2
                 have hcz102_3 : wr.cell? ⟨gb511, 3, none⟩ = some (.slice A0_3 l0_3.length c0_3) := vb BK511 3
                 have hfz102_0 := blk_frozen BK511.out 0
                 have hfz102_1 := blk_frozen BK511.out 1
                 have hfz102_2 := blk_frozen BK511.out 2
                 have hfz102_3 := blk_frozen BK511.out 3
                 go_wp2_with (first | ((with_reducible refine gate_callee (f := 26) rfl ?_); refine goesL_ (some 177) rfl rfl Tryd.func26 zk rfl #[.agg #[.int .i64 a0_0, .int .i64 a0_1, .int .i64 a0_2, .slice A0_3 l0_3.length c0_3], .slice Ao22 t518.length co22] rfl zm ?_; (with_reducible refine (kernel_Won.calls a0_0 a0_1 a0_2 _ _ l0_3 _ _ t518 t550 t553 _ ?side1 ?side2 ?side3 ?side4 ?side5 A75.out).mono ?_); (case side1 => repeat (first | exact (Kd.C_below HR0_3.out HB.out) | (with_reducible refine Kd.C_alloc ?_ _) | (with_reducible refine Kd.C_drewN ?_ _) | (with_reducible refine Kd.C_drew ?_))); (case side2 => exact HC0_3.out); (case side3 => repeat (first | exact (Kd.N_reads' HO_8.out).2.2 | (with_reducible refine Kd.C_alloc ?_ _) | (with_reducible refine Kd.C_drewN ?_ _) | (with_reducible refine Kd.C_drew ?_))); (case side4 => exact (Kd.N_reads' HO_8.out).2.1); (case side5 => exact Glob.below HG.out zb); rintro e w103 ⟨v551, rfl, ho0, hb⟩; refine ⟨_, rfl, ?_⟩; have n0_ := zh (Kd.R_below (zR HO_7) hb); have n1_ := zh (Kd.N_below (zN HO_8) hb); have n2_ := zh (Kd.N_below (zN HO_9) hb); have n3_ := zh (Kd.V_below (zV HO_13) hb); have n4_ := zh (Kd.V_lower (Kd.V_mono (ok' := fun k_ => some k_ ≠ (.slice Ao19 t514.length co19 : Value).ownBlock ∧ some k_ ≠ (.slice Ao22 t518.length co22 : Value).ownBlock ∧ some k_ ≠ (v522 : Value).ownBlock ∧ k_ ≠ gb511) ho0 (fun k_ hk_ => ⟨(Kd.fresh' (Kd.R_lt (zR HO_7)) k_ hk_), (Kd.fresh' (Kd.N_lt (zN HO_8)) k_ hk_), (Kd.fresh' (Kd.N_lt (zN HO_9)) k_ hk_), (Kd.freshB (g := gb511) (o := .cells #[.int .i64 a0_0, .int .i64 a0_1, .int .i64 a0_2, .slice A0_3 l0_3.length c0_3] 24 (0, 0)) (zc BK511) k_ hk_)⟩)) (below_size zb)); have n5_ := zh (blk_below (g := gb511) (o := .cells #[.int .i64 a0_0, .int .i64 a0_1, .int .i64 a0_2, .slice A0_3 l0_3.length c0_3] 24 (0, 0)) (zc BK511) hb); have n6_ := zh (below_step zb hb); clear HO_7; clear HO_8; clear HO_9; clear HO_13; clear BK511; clear HB; have HO_7 := n0_; have HO_8 := n1_; have HO_9 := n2_; have HO_13 := n3_; have HO552 := n4_; have BK511 := n5_; have HB := n6_; clear n0_ n1_ n2_ n3_ n4_ n5_ n6_; (try clear hb); (try clear hb2); (try clear hk); (try clear hi); (try clear ho0); obtain ⟨Ao104, co104, eo104⟩ := Kd.V_slice HO552.out; subst eo104) | (go_at_call 18; (with_reducible refine (saronref00_Equal.calls k3 _ _ t550 _ _ t514 false _ ?side1 ?side2 ?side3 ?side4 A93.out).mono ?_); (case side1 => repeat (first | exact (Kd.V_reads' HO552.out).2.2 | (with_reducible refine Kd.C_alloc ?_ _) | (with_reducible refine Kd.C_drewN ?_ _) | (with_reducible refine Kd.C_drew ?_))); (case side2 => exact (Kd.V_reads' HO552.out).2.1); (case side3 => repeat (first | exact (Kd.R_reads' HO_7.out).2.2 | (with_reducible refine Kd.C_alloc ?_ _) | (with_reducible refine Kd.C_drewN ?_ _) | (with_reducible refine Kd.C_drew ?_))); (case side4 => exact (Kd.R_reads' HO_7.out).2.1); rintro e w' ⟨rfl, ⟨nd, rfl⟩⟩))
                 go_ret
                 exact ⟨zf, zb⟩
               ·rw [if_neg c92] at H
                have c92b0 : (t553 == 0) = false := beq_eq_false_iff_ne.mpr c92
                have c92b1 : (t553 != 0) = true := bne_iff_ne.mpr c92
                obtain rfl := Option.some.inj H
                obtain ⟨Ao105, co105, eo105⟩ := Kd.V_slice HO_13.out
                subst eo105
                have hcz106_0 : wr.cell? ⟨gb511, 0, none⟩ = some (.int .i64 a0_0) := vb BK511 0
                have hcz106_1 : wr.cell? ⟨gb511, 1, none⟩ = some (.int .i64 a0_1) := vb BK511 1
                have hcz106_2 : wr.cell? ⟨gb511, 2, none⟩ = some (.int .i64 a0_2) := vb BK511 2
                have hcz106_3 : wr.cell? ⟨gb511, 3, none⟩ = some (.slice A0_3 l0_3.length c0_3) := vb BK511 3
                have hfz106_0 := blk_frozen BK511.out 0
                have hfz106_1 := blk_frozen BK511.out 1
                have hfz106_2 := blk_frozen BK511.out 2
                have hfz106_3 := blk_frozen BK511.out 3
                go_wp2_with (first | ((with_reducible refine gate_callee (f := 26) rfl ?_); refine goesL_ (some 177) rfl rfl Tryd.func26 zk rfl #[.agg #[.int .i64 a0_0, .int .i64 a0_1, .int .i64 a0_2, .slice A0_3 l0_3.length c0_3], .slice Ao22 t518.length co22] rfl zm ?_; (with_reducible refine (kernel_Won.calls a0_0 a0_1 a0_2 _ _ l0_3 _ _ t518 t550 t553 _ ?side1 ?side2 ?side3 ?side4 ?side5 A75.out).mono ?_); (case side1 => repeat (first | exact (Kd.C_below HR0_3.out HB.out) | (with_reducible refine Kd.C_alloc ?_ _) | (with_reducible refine Kd.C_drewN ?_ _) | (with_reducible refine Kd.C_drew ?_))); (case side2 => exact HC0_3.out); (case side3 => repeat (first | exact (Kd.N_reads' HO_8.out).2.2 | (with_reducible refine Kd.C_alloc ?_ _) | (with_reducible refine Kd.C_drewN ?_ _) | (with_reducible refine Kd.C_drew ?_))); (case side4 => exact (Kd.N_reads' HO_8.out).2.1); (case side5 => exact Glob.below HG.out zb); rintro e w107 ⟨v551, rfl, ho0, hb⟩; refine ⟨_, rfl, ?_⟩; have n0_ := zh (Kd.R_below (zR HO_7) hb); have n1_ := zh (Kd.N_below (zN HO_8) hb); have n2_ := zh (Kd.N_below (zN HO_9) hb); have n3_ := zh (Kd.V_below (zV HO_13) hb); have n4_ := zh (Kd.V_lower (Kd.V_mono (ok' := fun k_ => some k_ ≠ (.slice Ao19 t514.length co19 : Value).ownBlock ∧ some k_ ≠ (.slice Ao22 t518.length co22 : Value).ownBlock ∧ some k_ ≠ (v522 : Value).ownBlock ∧ k_ ≠ gb511) ho0 (fun k_ hk_ => ⟨(Kd.fresh' (Kd.R_lt (zR HO_7)) k_ hk_), (Kd.fresh' (Kd.N_lt (zN HO_8)) k_ hk_), (Kd.fresh' (Kd.N_lt (zN HO_9)) k_ hk_), (Kd.freshB (g := gb511) (o := .cells #[.int .i64 a0_0, .int .i64 a0_1, .int .i64 a0_2, .slice A0_3 l0_3.length c0_3] 24 (0, 0)) (zc BK511) k_ hk_)⟩)) (below_size zb)); have n5_ := zh (blk_below (g := gb511) (o := .cells #[.int .i64 a0_0, .int .i64 a0_1, .int .i64 a0_2, .slice A0_3 l0_3.length c0_3] 24 (0, 0)) (zc BK511) hb); have n6_ := zh (below_step zb hb); clear HO_7; clear HO_8; clear HO_9; clear HO_13; clear BK511; clear HB; have HO_7 := n0_; have HO_8 := n1_; have HO_9 := n2_; have HO_13 := n3_; have HO552 := n4_; have BK511 := n5_; have HB := n6_; clear n0_ n1_ n2_ n3_ n4_ n5_ n6_; (try clear hb); (try clear hb2); (try clear hk); (try clear hi); (try clear ho0)))
                go_ret
                exact ⟨zf, zb⟩
 ·replace c5 := Bool.eq_false_iff.mpr c5
  subst c5
  have H1 : ((saronlaw06_works.f).bind fun t513 => (some t513)) = some r := by rw [if_neg (show ¬ (false = true) by decide)] at H; exact H
  clear H
  have H := H1
  clear H1
  replace H := Option.bind_eq_some_iff.mp H
  obtain ⟨t513, A1080, H⟩ := H
  replace H : (some t513) = some r := H
  have A108 := zh A1080
  clear A1080
  obtain rfl := Option.some.inj H
  go_enter Tryd.func7, Tryd.ntmps7
  go_wp2_with (first | ((with_reducible refine gate_dst (N := 3) rfl ?_); (try (refine gate_guard (by rfl) ?_; dsimp only)); refine box_event ?hg (N := 3) ?hd (cs := #[.int .i64 a0_0, .int .i64 a0_1, .int .i64 a0_2, .slice A0_3 l0_3.length c0_3]) (t := 24) ?hr ?_; (case hd => rfl); (case hg => rfl); (case hr => first | (go_simp; done) | (go_simp; rfl)); intro gb511 hg w109 hbox hb; have n0_ := zh (below_step zb hb); have n1_ := zh (hbox); have n2_ := zh ((by rw [hg]; exact (below_size zb) : w.heap.size ≤ gb511)); have n3_ := zh ((by rw [hg]; exact (below_size zb) : w.heap.size ≤ gb511)); clear HB; have HB := n0_; have BK511 := n1_; have GW511 := n2_; have GE511 := n3_; clear n0_ n1_ n2_ n3_; clear hb hbox hg; have hcz110_0 : w109.cell? ⟨gb511, 0, none⟩ = some (.int .i64 a0_0) := vb BK511 0; have hcz110_1 : w109.cell? ⟨gb511, 1, none⟩ = some (.int .i64 a0_1) := vb BK511 1; have hcz110_2 : w109.cell? ⟨gb511, 2, none⟩ = some (.int .i64 a0_2) := vb BK511 2; have hcz110_3 : w109.cell? ⟨gb511, 3, none⟩ = some (.slice A0_3 l0_3.length c0_3) := vb BK511 3; have hfz110_0 := blk_frozen BK511.out 0; have hfz110_1 := blk_frozen BK511.out 1; have hfz110_2 := blk_frozen BK511.out 2; have hfz110_3 := blk_frozen BK511.out 3) | ((with_reducible refine gate_callee (f := 39) rfl ?_); refine goesL_ (some 24) rfl rfl Tryd.func39 zk rfl #[.agg #[.int .i64 a0_0, .int .i64 a0_1, .int .i64 a0_2, .slice A0_3 l0_3.length c0_3]] rfl zm ?_; (with_reducible refine (saronlaw06_sound.calls k a0_0 a0_1 a0_2 _ _ l0_3 false _ ?side1 ?side2 A4.out).mono ?_); (case side1 => repeat (first | exact (Kd.C_below HR0_3.out HB.out) | (with_reducible refine Kd.C_alloc ?_ _) | (with_reducible refine Kd.C_drewN ?_ _) | (with_reducible refine Kd.C_drew ?_))); (case side2 => exact HC0_3.out); rintro e w111 ⟨rfl, hb⟩; refine ⟨_, rfl, ?_⟩; have n0_ := zh (blk_below (g := gb511) (o := .cells #[.int .i64 a0_0, .int .i64 a0_1, .int .i64 a0_2, .slice A0_3 l0_3.length c0_3] 24 (0, 0)) (zc BK511) hb); have n1_ := zh (below_step zb hb); clear BK511; clear HB; have BK511 := n0_; have HB := n1_; clear n0_ n1_; (try clear hb); (try clear hb2); (try clear hk); (try clear hi)) | ((with_reducible refine gate_callee (f := 21) rfl ?_); refine goesL_ (some 26) rfl rfl Tryd.func21 zk rfl #[] rfl zm ?_; (with_reducible refine (saronlaw06_works.calls  t513 _ ?side1 A108.out).mono ?_); (case side1 => exact Glob.below HG.out zb); rintro e w112 ⟨rfl, hb⟩; refine ⟨_, rfl, ?_⟩; have n0_ := zh (blk_below (g := gb511) (o := .cells #[.int .i64 a0_0, .int .i64 a0_1, .int .i64 a0_2, .slice A0_3 l0_3.length c0_3] 24 (0, 0)) (zc BK511) hb); have n1_ := zh (below_step zb hb); clear BK511; clear HB; have BK511 := n0_; have HB := n1_; clear n0_ n1_; (try clear hb); (try clear hb2); (try clear hk); (try clear hi)))
  go_ret
  exact ⟨zf, zb⟩
end Go.Proofs.YtagkfkdoibnhfaaDoor.H
end
section
namespace Go.Proofs.YtagkfkdoibnhfaaDoor.kernelTrue
open Go.ChangeShapes Go.WideShapes Go.ChangeAt Go.RowKit Go.Proofs.YtagkfkdoibnhfaaDoorW.PrintWords Go.Proofs.YtagkfkdoibnhfaaDoor.H Go.Proofs.YtagkfkdoibnhfaaDoor.K
set_option linter.unusedVariables false
theorem own : ownKnob Tryd.prog.godebug = none := by kernel_rfl
theorem laidOut : laidOutB Tryd.prog = true := by kernel_rfl
theorem door_met (os : Os) (args : Array Value) : laidMetH Tryd.prog laid1 ((World.doorLaid Tryd.prog 600 os).forCall (fun _ _ => 0) ⟨#[], args, []⟩).memory :=
 laidMetH_of_parts3 (fuel := 8) (laidMet_of_run' 8 zk zk) zk zk
set_option maxRecDepth 100000 in
set_option maxHeartbeats 2000000 in
theorem lifted (os : Os) (started : os.Started) (H : Type) (enc : TypeId × Value → H) :
  ReturnsInHanded {} Tryd.checked os 7 .any (fun w args => (Rows.kernelTrueSpec.pre enc Tryd.prog Tryd.f7 [] false w args ∧ laidMetH Tryd.prog laid1 w) ∧ sizedMet enc Tryd.prog Tryd.f7 (OpenSpec.ofChange Rows.kernelTrueSpec) false w args)
   (Rows.kernelTrueSpec.post enc Tryd.prog Tryd.f7 false true false false) := by
 refine returnsInHanded_of_change_and (C := Tryd.checked) (X := fun w _ => laidMetH Tryd.prog laid1 w) (fun _ _ _ hh h => h.of_heap hh) own started zk Tryd.func7
  (ChangeSpec.witness_shaped (enc := enc) (C := Tryd.checked) (os := os) (X := fun w _ => laidMetH Tryd.prog laid1 w) false (World.doorLaid Tryd.prog 600 os) #[.agg #[.int .i64 0, .int .i64 0, .int .i64 0, .slice none 0 0], .slice none 0 0, .int .i64 0] 8 rfl (World.shaped_of_RefB zk zk) zk zk zk (door_met os _)) ?_
 intro W base args ds gs before hval0 hW _ _ hL _
 have hval : ∀ (j : Nat) t v, Tryd.f7.params[j]? = some t → args[j]? = some v → Value.okWide Tryd.prog W .any base t v := hval0
 have hW' := hW
 obtain ⟨p, q, hA0, hV, rfl, hfz, hnd⟩ := hW
 have hA : DataW.TrodAll enc Tryd.prog W 0 (fun _ => true) true Tryd.f7.params.toList args.toList ds p := hA0
 rw [Tryd.params7] at hA hval
 obtain ⟨v0, vs0, d0, ds0, p0, q0, hargs, rfl, rfl, h0, r0⟩ := trodAll_cons hA
 obtain ⟨v1, vs1, d1, ds1, p1, q1, rfl, rfl, rfl, h1, r1⟩ := trodAll_cons r0
 obtain ⟨v2, vs2, d2, ds2, p2, q2, rfl, rfl, rfl, h2, r2⟩ := trodAll_cons r1
 obtain ⟨rfl, rfl, rfl⟩ := trodAll_nil r2
 obtain rfl : args = #[v0, v1, v2] := by cases args; simp_all
 obtain ⟨rfl, rfl⟩ := trodVars_none hV
 have k0 := h0
 have lt0 : ∀ x ∈ p0, x.block < W.heap.size := by obtain ⟨m, hm⟩ := k0; exact DataW.trod_lt m _ _ _ hm
 obtain ⟨T0, O0, L0, A0, R0, c0, rfl, hc0, hC0, iT0, iO0, iL0, sR0, iR0⟩ := arg_scale (hval 0 24 v0 rfl rfl) h0
 have k1 := h1
 have lt1 : ∀ x ∈ p1, x.block < W.heap.size := by obtain ⟨m, hm⟩ := k1; exact DataW.trod_lt m _ _ _ hm
 obtain ⟨A1, l1, c1, rfl, hc1, hC1, s1, i1⟩ := arg_ints (hval 1 25 v1 rfl rfl) h1
 obtain ⟨a2, rfl, rfl, rfl, w2⟩ := open_int Tryd.underlying3 (hval 2 3 v2 rfl rfl) h2
 clear hA0 hval0
 have hG := glob_of_laid hL
 refine (saronlaw06_KernelTrue.calls (2 * R0.length + 1000) T0 O0 L0 A0 c0 R0 A1 c1 l1 a2 true W hC0 hc0 hC1 hc1 hG (K.O.true_law T0 O0 L0 R0 l1 a2 sR0 s1 _ (Nat.le_refl _))).mono fun e W' ⟨he, bel⟩ => ?_
 subst he
 exact ⟨_, rfl, _, _, _, [], _, [], hW', trodAll_mk1 (shut_bool Tryd.underlying4 _), (trodAll_cons_mk (Below.trod laidOut zk (of_decide_eq_true zk) k0 bel lt0) (trodAll_cons_mk (Below.trod laidOut zk (of_decide_eq_true zk) k1 bel lt1) (trodAll_cons_mk (shut_int Tryd.underlying3 w2) trodAll_mk0))), rfl, bel.frame _, fun h => by cases h⟩
theorem over : Rows.kernelTrueRow.holds Tryd.pinned (OpenSpec.ofChange Rows.kernelTrueSpec) :=
 OpenClaim.holds_of_wide 7 Tryd.f7 rfl rfl rfl rfl rfl rfl rfl ⟨rfl, rfl, rfl, rfl, rfl⟩ rfl rfl rfl rfl rfl zk Tryd.func7 zk
  (of_decide_eq_true zk) (by unfold Func.isWrapper; first | (rw [if_pos (by decide +kernel)]; kernel_rfl) | (rw [if_neg (by decide +kernel)]; exact ⟨rfl, rfl⟩))
  (fun os started H enc _ => lifted os started H enc)
theorem proved : Rows.KernelTrueCardSaid :=
 Claim7.holds_tied_plain_at .later [] [.funcs] true (true, "1546f209dbcbef264cbb20aea537f6d5569935ba401e115858a8843598e79524") false
  over (fun _ h => by cases h) zk (fun _ h => by cases h) kernelTrue_row_tie rfl ⟨rfl, rfl⟩ zk rfl
  (fun f fn hf hfn => by
   obtain rfl : f = 7 := Option.some.inj ((show Tryd.prog.funcNamed "saron/saronlaw06.KernelTrue" = some 7 by kernel_rfl).symm.trans hf) |>.symm
   obtain rfl : fn = Tryd.f7 := (Option.some.inj (Tryd.func7.symm.trans hfn)).symm
   exact ⟨by kernel_rfl, fun j t ht => by
    rw [Tryd.params7] at ht
    have hm : t ∈ [24, 25, 3] := by simpa using Array.mem_of_getElem? ht
    have hall : ([24, 25, 3].all fun u => !Tryd.prog.wantsStandIn u) = true := by kernel_rfl
    exact (show Tryd.prog.wantsStandIn t = false by simpa using List.all_eq_true.1 hall t hm)⟩)
  zk
end Go.Proofs.YtagkfkdoibnhfaaDoor.kernelTrue
namespace Go.Proofs.YtagkfkdoibnhfaaDoor
theorem kernelTrue_card : Rows.KernelTrueCardSaid := kernelTrue.proved
end Go.Proofs.YtagkfkdoibnhfaaDoor
end
