/- KernelBack: for every scale, any two numbers that choose the registers and any numbers that choose the kernel the law returns true, and each argument reads afterwards as it read before. Condition: when the call begins the package's table of rules reads as the program's text lays it; the card ties that to the text. -/
import Derived.Below
import Derived.Carry
import Derived.LaidMore
import Derived.OpenShut
import Derived.ProofKit
import Derived.SevenTiedAt
import Derived.SizedLaws
import Derived.Stop.Joined
import Derived.WalkKit
import Derived.Test.YtagkfkdoibnhfaaDoorCards
import Derived.Test.YtagkfkdoibnhfaaDoorTie
import Derived.Test.YtagkfkdoibnhfaaDoorZB2
import Derived.Test.YtagkfkdoibnhfaaDoorZB4
import Derived.Test.YtagkfkdoibnhfaaDoorZTwo1
set_option linter.all false
section
namespace Go.Proofs.YtagkfkdoibnhfaaDoor.H
open Go.RowKit Go.Proofs.YtagkfkdoibnhfaaDoorW.PrintWords Go.Proofs.YtagkfkdoibnhfaaDoorW.PrintLast Go.Proofs.YtagkfkdoibnhfaaDoorW.PrintMore
attribute [local go_sem] max2_int min2_int max_two min_two max_three min_three max_four min_four   -- for this text's walks alone
set_option linter.unusedVariables false
set_option linter.unusedSimpArgs false
open Go.Proofs.YtagkfkdoibnhfaaDoor.K
def saronlaw06_KernelBack.T4 : Bool × List (List Nat × List Nat) := (true, [([], []), ([0], [0]), ([], []), ([2], [2]), ([3], [3]), ([1, 4], [1, 4]), ([], []), ([6], [6]), ([], []), ([8], [8]), ([9], [9]), ([7, 10, 5], [7, 10]), ([5, 11, 0, 1, 2, 3, 4, 5], [5]), ([11, 12, 0, 1, 2, 3, 4, 5, 6, 7, 8, 9, 10, 11, 12], [11])])
def saronlaw06_KernelBack.B4 : List Nat := [0, 1, 0, 4, 12, 31, 0, 64, 0, 256, 768, 2047, 4095, 8191]
theorem saronlaw06_KernelBack.tab4 : rtab .any (opsOf Tryd.f8 4) = saronlaw06_KernelBack.T4 := by kernel_rfl
theorem saronlaw06_KernelBack.bits4 : waitsOk saronlaw06_KernelBack.T4.2 saronlaw06_KernelBack.B4 = true := by kernel_rfl
def saronlaw06_KernelBack.T17 : Bool × List (List Nat × List Nat) := (true, [([], []), ([], []), ([0, 1], [0, 1]), ([2], [2]), ([3], [3]), ([], []), ([5], [5]), ([6], [6]), ([7], [7]), ([4, 8], [4, 8]), ([9], [9]), ([10, 9], [10]), ([11], [11]), ([11], [11]), ([12, 13, 11], [11, 12, 13]), ([14, 11], [11, 14]), ([15, 11], [11, 15]), ([11], [11]), ([11], [11]), ([17, 18, 11], [11, 17, 18]), ([19, 11], [11, 19]), ([20, 11], [11, 20]), ([16, 21, 11], [11, 16, 21]), ([11, 22], [11, 22]), ([23, 11], [23]), ([24], [24]), ([24], [24]), ([25, 26, 24], [24, 25, 26]), ([27, 24], [24, 27]), ([28, 24], [24, 28]), ([24], [24]), ([30, 24], [24, 30]), ([31, 24], [24, 31]), ([29, 32, 24], [24, 29, 32]), ([24, 33], [24, 33])])
def saronlaw06_KernelBack.B17 : List Nat := [0, 0, 3, 7, 15, 0, 32, 96, 224, 511, 1023, 2047, 4095, 4095, 16383, 32767, 65535, 4095, 4095, 397311, 921599, 1970175, 4194303, 8388607, 16777215, 33554431, 33554431, 134217727, 268435455, 536870911, 33554431, 1107296255, 3254779903, 8589934591, 17179869183]
theorem saronlaw06_KernelBack.tab17 : rtab .any (opsOf Tryd.f8 17) = saronlaw06_KernelBack.T17 := by kernel_rfl
theorem saronlaw06_KernelBack.bits17 : waitsOk saronlaw06_KernelBack.T17.2 saronlaw06_KernelBack.B17 = true := by kernel_rfl
set_option maxHeartbeats 8000000 in
set_option maxRecDepth 100000 in
theorem saronlaw06_KernelBack.calls (k : Nat) (a0_0 : Int) (a0_1 : Int) (a0_2 : Int) (A0_3 : Option Addr) (c0_3 : Nat) (l0_3 : List (S66)) (a1_0 : Int) (a1_1 : Int) (A2 : Option Addr) (c2 : Nat) (l2 : List Int) (r : Bool) (w : World) (hr0_3 : Kd.C k66 w A0_3 l0_3.length l0_3) (hc0_3 : l0_3.length ≤ c0_3) (hr2 : Kd.C (Kd.int .i64) w A2 l2.length l2) (hc2 : l2.length ≤ c2) (hG : Glob w) (h : saronlaw06_KernelBack.f k a0_0 a0_1 a0_2 l0_3 a1_0 a1_1 l2 = some r) :
  Calls Tryd.prog 8 #[.agg #[.int .i64 a0_0, .int .i64 a0_1, .int .i64 a0_2, .slice A0_3 l0_3.length c0_3], .agg #[.int .i64 a1_0, .int .i64 a1_1], .slice A2 l2.length c2] w fun e w' => e = .returned (.bool r) ∧ Below w.heap.size w w' := by
 have hu24 := Tryd.underlying24
 have hu61 := Tryd.underlying61
 have HG := zh hG
 clear hG
 have HR0_3 := zh hr0_3
 have HC0_3 := zh hc0_3
 clear hr0_3 hc0_3
 have HR2 := zh hr2
 have HC2 := zh hc2
 clear hr2 hc2
 have HB := zh (Below.refl w.heap.size w)
 have H : ((kernel_Pairs.f a0_0 a0_1 a0_2 l0_3).bind fun bt190 => ((saronlaw06_sound.f k a0_0 a0_1 a0_2 l0_3).bind fun t194 => (if t194 = true then ((saronref00_Turn.f a1_0 (l0_3.length : Int)).bind fun t196 => ((saronref00_Turn.f a1_1 (l0_3.length : Int)).bind fun t197 => ((saronlaw06_truly.f k a0_0 a0_1 a0_2 l0_3 l2).bind fun t198 => ((kernel_Part.f a0_0 a0_1 a0_2 l0_3 t198 t196).bind fun bt201 => ((kernel_Part.f a0_0 a0_1 a0_2 l0_3 t198 t197).bind fun bt205 => ((saronlaw06_of.f t196 bt201.1).bind fun bt209 => ((saronlaw06_of.f t197 bt205.1).bind fun bt213 => ((kernel_Won.f a0_0 a0_1 a0_2 l0_3 (([(⟨bt209.1, bt209.2⟩ : S60), (⟨bt213.1, bt213.2⟩ : S60)] : List (S60)))).bind fun bt220 => ((kernel_Twins.f a0_0 a0_1 a0_2 l0_3 t196 t197).bind fun bt224 => (if bt190.2 = 0 then (if bt201.2 = 0 then (if bt205.2 = 0 then (if bt224.2.2 = 0 then (saronlaw06_KernelBack.j0 k bt190.1 t196 t197 t198 bt220.1 bt220.2 bt224.1 bt224.2.1 bt224.2.2 false a0_0 a0_1 a0_2 l0_3) else (saronlaw06_KernelBack.j0 k bt190.1 t196 t197 t198 bt220.1 bt220.2 bt224.1 bt224.2.1 bt224.2.2 (bt224.2.2 != 4) a0_0 a0_1 a0_2 l0_3)) else (saronlaw06_KernelBack.j0 k bt190.1 t196 t197 t198 bt220.1 bt220.2 bt224.1 bt224.2.1 bt224.2.2 true a0_0 a0_1 a0_2 l0_3)) else (saronlaw06_KernelBack.j0 k bt190.1 t196 t197 t198 bt220.1 bt220.2 bt224.1 bt224.2.1 bt224.2.2 true a0_0 a0_1 a0_2 l0_3)) else (saronlaw06_KernelBack.j0 k bt190.1 t196 t197 t198 bt220.1 bt220.2 bt224.1 bt224.2.1 bt224.2.2 true a0_0 a0_1 a0_2 l0_3))))))))))) else (if bt190.2 = 60 then (if (bt190.1.length : Int) = 0 then ((saronlaw06_works.f).bind fun t195 => (some t195)) else (some false)) else (some false))))) = some r := h
 clear h
 replace H := Option.bind_eq_some_iff.mp H
 obtain ⟨⟨t190, t193⟩, A40, H⟩ := H
 replace H : ((saronlaw06_sound.f k a0_0 a0_1 a0_2 l0_3).bind fun t194 => (if t194 = true then ((saronref00_Turn.f a1_0 (l0_3.length : Int)).bind fun t196 => ((saronref00_Turn.f a1_1 (l0_3.length : Int)).bind fun t197 => ((saronlaw06_truly.f k a0_0 a0_1 a0_2 l0_3 l2).bind fun t198 => ((kernel_Part.f a0_0 a0_1 a0_2 l0_3 t198 t196).bind fun bt201 => ((kernel_Part.f a0_0 a0_1 a0_2 l0_3 t198 t197).bind fun bt205 => ((saronlaw06_of.f t196 bt201.1).bind fun bt209 => ((saronlaw06_of.f t197 bt205.1).bind fun bt213 => ((kernel_Won.f a0_0 a0_1 a0_2 l0_3 (([(⟨bt209.1, bt209.2⟩ : S60), (⟨bt213.1, bt213.2⟩ : S60)] : List (S60)))).bind fun bt220 => ((kernel_Twins.f a0_0 a0_1 a0_2 l0_3 t196 t197).bind fun bt224 => (if t193 = 0 then (if bt201.2 = 0 then (if bt205.2 = 0 then (if bt224.2.2 = 0 then (saronlaw06_KernelBack.j0 k t190 t196 t197 t198 bt220.1 bt220.2 bt224.1 bt224.2.1 bt224.2.2 false a0_0 a0_1 a0_2 l0_3) else (saronlaw06_KernelBack.j0 k t190 t196 t197 t198 bt220.1 bt220.2 bt224.1 bt224.2.1 bt224.2.2 (bt224.2.2 != 4) a0_0 a0_1 a0_2 l0_3)) else (saronlaw06_KernelBack.j0 k t190 t196 t197 t198 bt220.1 bt220.2 bt224.1 bt224.2.1 bt224.2.2 true a0_0 a0_1 a0_2 l0_3)) else (saronlaw06_KernelBack.j0 k t190 t196 t197 t198 bt220.1 bt220.2 bt224.1 bt224.2.1 bt224.2.2 true a0_0 a0_1 a0_2 l0_3)) else (saronlaw06_KernelBack.j0 k t190 t196 t197 t198 bt220.1 bt220.2 bt224.1 bt224.2.1 bt224.2.2 true a0_0 a0_1 a0_2 l0_3))))))))))) else (if t193 = 60 then (if (t190.length : Int) = 0 then ((saronlaw06_works.f).bind fun t195 => (some t195)) else (some false)) else (some false)))) = some r := H
 have A4 := zh A40
 clear A40
 replace H := Option.bind_eq_some_iff.mp H
 obtain ⟨t194, A50, H⟩ := H
 replace H : (if t194 = true then ((saronref00_Turn.f a1_0 (l0_3.length : Int)).bind fun t196 => ((saronref00_Turn.f a1_1 (l0_3.length : Int)).bind fun t197 => ((saronlaw06_truly.f k a0_0 a0_1 a0_2 l0_3 l2).bind fun t198 => ((kernel_Part.f a0_0 a0_1 a0_2 l0_3 t198 t196).bind fun bt201 => ((kernel_Part.f a0_0 a0_1 a0_2 l0_3 t198 t197).bind fun bt205 => ((saronlaw06_of.f t196 bt201.1).bind fun bt209 => ((saronlaw06_of.f t197 bt205.1).bind fun bt213 => ((kernel_Won.f a0_0 a0_1 a0_2 l0_3 (([(⟨bt209.1, bt209.2⟩ : S60), (⟨bt213.1, bt213.2⟩ : S60)] : List (S60)))).bind fun bt220 => ((kernel_Twins.f a0_0 a0_1 a0_2 l0_3 t196 t197).bind fun bt224 => (if t193 = 0 then (if bt201.2 = 0 then (if bt205.2 = 0 then (if bt224.2.2 = 0 then (saronlaw06_KernelBack.j0 k t190 t196 t197 t198 bt220.1 bt220.2 bt224.1 bt224.2.1 bt224.2.2 false a0_0 a0_1 a0_2 l0_3) else (saronlaw06_KernelBack.j0 k t190 t196 t197 t198 bt220.1 bt220.2 bt224.1 bt224.2.1 bt224.2.2 (bt224.2.2 != 4) a0_0 a0_1 a0_2 l0_3)) else (saronlaw06_KernelBack.j0 k t190 t196 t197 t198 bt220.1 bt220.2 bt224.1 bt224.2.1 bt224.2.2 true a0_0 a0_1 a0_2 l0_3)) else (saronlaw06_KernelBack.j0 k t190 t196 t197 t198 bt220.1 bt220.2 bt224.1 bt224.2.1 bt224.2.2 true a0_0 a0_1 a0_2 l0_3)) else (saronlaw06_KernelBack.j0 k t190 t196 t197 t198 bt220.1 bt220.2 bt224.1 bt224.2.1 bt224.2.2 true a0_0 a0_1 a0_2 l0_3))))))))))) else (if t193 = 60 then (if (t190.length : Int) = 0 then ((saronlaw06_works.f).bind fun t195 => (some t195)) else (some false)) else (some false))) = some r := H
 have A5 := zh A50
 clear A50
 by_cases c6 : t194 = true
 ·subst c6
  have H1 : ((saronref00_Turn.f a1_0 (l0_3.length : Int)).bind fun t196 => ((saronref00_Turn.f a1_1 (l0_3.length : Int)).bind fun t197 => ((saronlaw06_truly.f k a0_0 a0_1 a0_2 l0_3 l2).bind fun t198 => ((kernel_Part.f a0_0 a0_1 a0_2 l0_3 t198 t196).bind fun bt201 => ((kernel_Part.f a0_0 a0_1 a0_2 l0_3 t198 t197).bind fun bt205 => ((saronlaw06_of.f t196 bt201.1).bind fun bt209 => ((saronlaw06_of.f t197 bt205.1).bind fun bt213 => ((kernel_Won.f a0_0 a0_1 a0_2 l0_3 (([(⟨bt209.1, bt209.2⟩ : S60), (⟨bt213.1, bt213.2⟩ : S60)] : List (S60)))).bind fun bt220 => ((kernel_Twins.f a0_0 a0_1 a0_2 l0_3 t196 t197).bind fun bt224 => (if t193 = 0 then (if bt201.2 = 0 then (if bt205.2 = 0 then (if bt224.2.2 = 0 then (saronlaw06_KernelBack.j0 k t190 t196 t197 t198 bt220.1 bt220.2 bt224.1 bt224.2.1 bt224.2.2 false a0_0 a0_1 a0_2 l0_3) else (saronlaw06_KernelBack.j0 k t190 t196 t197 t198 bt220.1 bt220.2 bt224.1 bt224.2.1 bt224.2.2 (bt224.2.2 != 4) a0_0 a0_1 a0_2 l0_3)) else (saronlaw06_KernelBack.j0 k t190 t196 t197 t198 bt220.1 bt220.2 bt224.1 bt224.2.1 bt224.2.2 true a0_0 a0_1 a0_2 l0_3)) else (saronlaw06_KernelBack.j0 k t190 t196 t197 t198 bt220.1 bt220.2 bt224.1 bt224.2.1 bt224.2.2 true a0_0 a0_1 a0_2 l0_3)) else (saronlaw06_KernelBack.j0 k t190 t196 t197 t198 bt220.1 bt220.2 bt224.1 bt224.2.1 bt224.2.2 true a0_0 a0_1 a0_2 l0_3))))))))))) = some r := by rw [if_pos rfl] at H; exact H
  clear H
  have H := H1
  clear H1
  replace H := Option.bind_eq_some_iff.mp H
  obtain ⟨t196, A70, H⟩ := H
  replace H : ((saronref00_Turn.f a1_1 (l0_3.length : Int)).bind fun t197 => ((saronlaw06_truly.f k a0_0 a0_1 a0_2 l0_3 l2).bind fun t198 => ((kernel_Part.f a0_0 a0_1 a0_2 l0_3 t198 t196).bind fun bt201 => ((kernel_Part.f a0_0 a0_1 a0_2 l0_3 t198 t197).bind fun bt205 => ((saronlaw06_of.f t196 bt201.1).bind fun bt209 => ((saronlaw06_of.f t197 bt205.1).bind fun bt213 => ((kernel_Won.f a0_0 a0_1 a0_2 l0_3 (([(⟨bt209.1, bt209.2⟩ : S60), (⟨bt213.1, bt213.2⟩ : S60)] : List (S60)))).bind fun bt220 => ((kernel_Twins.f a0_0 a0_1 a0_2 l0_3 t196 t197).bind fun bt224 => (if t193 = 0 then (if bt201.2 = 0 then (if bt205.2 = 0 then (if bt224.2.2 = 0 then (saronlaw06_KernelBack.j0 k t190 t196 t197 t198 bt220.1 bt220.2 bt224.1 bt224.2.1 bt224.2.2 false a0_0 a0_1 a0_2 l0_3) else (saronlaw06_KernelBack.j0 k t190 t196 t197 t198 bt220.1 bt220.2 bt224.1 bt224.2.1 bt224.2.2 (bt224.2.2 != 4) a0_0 a0_1 a0_2 l0_3)) else (saronlaw06_KernelBack.j0 k t190 t196 t197 t198 bt220.1 bt220.2 bt224.1 bt224.2.1 bt224.2.2 true a0_0 a0_1 a0_2 l0_3)) else (saronlaw06_KernelBack.j0 k t190 t196 t197 t198 bt220.1 bt220.2 bt224.1 bt224.2.1 bt224.2.2 true a0_0 a0_1 a0_2 l0_3)) else (saronlaw06_KernelBack.j0 k t190 t196 t197 t198 bt220.1 bt220.2 bt224.1 bt224.2.1 bt224.2.2 true a0_0 a0_1 a0_2 l0_3)))))))))) = some r := H
  have A7 := zh A70
  clear A70
  replace H := Option.bind_eq_some_iff.mp H
  obtain ⟨t197, A80, H⟩ := H
  replace H : ((saronlaw06_truly.f k a0_0 a0_1 a0_2 l0_3 l2).bind fun t198 => ((kernel_Part.f a0_0 a0_1 a0_2 l0_3 t198 t196).bind fun bt201 => ((kernel_Part.f a0_0 a0_1 a0_2 l0_3 t198 t197).bind fun bt205 => ((saronlaw06_of.f t196 bt201.1).bind fun bt209 => ((saronlaw06_of.f t197 bt205.1).bind fun bt213 => ((kernel_Won.f a0_0 a0_1 a0_2 l0_3 (([(⟨bt209.1, bt209.2⟩ : S60), (⟨bt213.1, bt213.2⟩ : S60)] : List (S60)))).bind fun bt220 => ((kernel_Twins.f a0_0 a0_1 a0_2 l0_3 t196 t197).bind fun bt224 => (if t193 = 0 then (if bt201.2 = 0 then (if bt205.2 = 0 then (if bt224.2.2 = 0 then (saronlaw06_KernelBack.j0 k t190 t196 t197 t198 bt220.1 bt220.2 bt224.1 bt224.2.1 bt224.2.2 false a0_0 a0_1 a0_2 l0_3) else (saronlaw06_KernelBack.j0 k t190 t196 t197 t198 bt220.1 bt220.2 bt224.1 bt224.2.1 bt224.2.2 (bt224.2.2 != 4) a0_0 a0_1 a0_2 l0_3)) else (saronlaw06_KernelBack.j0 k t190 t196 t197 t198 bt220.1 bt220.2 bt224.1 bt224.2.1 bt224.2.2 true a0_0 a0_1 a0_2 l0_3)) else (saronlaw06_KernelBack.j0 k t190 t196 t197 t198 bt220.1 bt220.2 bt224.1 bt224.2.1 bt224.2.2 true a0_0 a0_1 a0_2 l0_3)) else (saronlaw06_KernelBack.j0 k t190 t196 t197 t198 bt220.1 bt220.2 bt224.1 bt224.2.1 bt224.2.2 true a0_0 a0_1 a0_2 l0_3))))))))) = some r := H
  have A8 := zh A80
  clear A80
  replace H := Option.bind_eq_some_iff.mp H
  obtain ⟨t198, A90, H⟩ := H
  replace H : ((kernel_Part.f a0_0 a0_1 a0_2 l0_3 t198 t196).bind fun bt201 => ((kernel_Part.f a0_0 a0_1 a0_2 l0_3 t198 t197).bind fun bt205 => ((saronlaw06_of.f t196 bt201.1).bind fun bt209 => ((saronlaw06_of.f t197 bt205.1).bind fun bt213 => ((kernel_Won.f a0_0 a0_1 a0_2 l0_3 (([(⟨bt209.1, bt209.2⟩ : S60), (⟨bt213.1, bt213.2⟩ : S60)] : List (S60)))).bind fun bt220 => ((kernel_Twins.f a0_0 a0_1 a0_2 l0_3 t196 t197).bind fun bt224 => (if t193 = 0 then (if bt201.2 = 0 then (if bt205.2 = 0 then (if bt224.2.2 = 0 then (saronlaw06_KernelBack.j0 k t190 t196 t197 t198 bt220.1 bt220.2 bt224.1 bt224.2.1 bt224.2.2 false a0_0 a0_1 a0_2 l0_3) else (saronlaw06_KernelBack.j0 k t190 t196 t197 t198 bt220.1 bt220.2 bt224.1 bt224.2.1 bt224.2.2 (bt224.2.2 != 4) a0_0 a0_1 a0_2 l0_3)) else (saronlaw06_KernelBack.j0 k t190 t196 t197 t198 bt220.1 bt220.2 bt224.1 bt224.2.1 bt224.2.2 true a0_0 a0_1 a0_2 l0_3)) else (saronlaw06_KernelBack.j0 k t190 t196 t197 t198 bt220.1 bt220.2 bt224.1 bt224.2.1 bt224.2.2 true a0_0 a0_1 a0_2 l0_3)) else (saronlaw06_KernelBack.j0 k t190 t196 t197 t198 bt220.1 bt220.2 bt224.1 bt224.2.1 bt224.2.2 true a0_0 a0_1 a0_2 l0_3)))))))) = some r := H
  have A9 := zh A90
  clear A90
  replace H := Option.bind_eq_some_iff.mp H
  obtain ⟨⟨t201, t204⟩, A100, H⟩ := H
  replace H : ((kernel_Part.f a0_0 a0_1 a0_2 l0_3 t198 t197).bind fun bt205 => ((saronlaw06_of.f t196 t201).bind fun bt209 => ((saronlaw06_of.f t197 bt205.1).bind fun bt213 => ((kernel_Won.f a0_0 a0_1 a0_2 l0_3 (([(⟨bt209.1, bt209.2⟩ : S60), (⟨bt213.1, bt213.2⟩ : S60)] : List (S60)))).bind fun bt220 => ((kernel_Twins.f a0_0 a0_1 a0_2 l0_3 t196 t197).bind fun bt224 => (if t193 = 0 then (if t204 = 0 then (if bt205.2 = 0 then (if bt224.2.2 = 0 then (saronlaw06_KernelBack.j0 k t190 t196 t197 t198 bt220.1 bt220.2 bt224.1 bt224.2.1 bt224.2.2 false a0_0 a0_1 a0_2 l0_3) else (saronlaw06_KernelBack.j0 k t190 t196 t197 t198 bt220.1 bt220.2 bt224.1 bt224.2.1 bt224.2.2 (bt224.2.2 != 4) a0_0 a0_1 a0_2 l0_3)) else (saronlaw06_KernelBack.j0 k t190 t196 t197 t198 bt220.1 bt220.2 bt224.1 bt224.2.1 bt224.2.2 true a0_0 a0_1 a0_2 l0_3)) else (saronlaw06_KernelBack.j0 k t190 t196 t197 t198 bt220.1 bt220.2 bt224.1 bt224.2.1 bt224.2.2 true a0_0 a0_1 a0_2 l0_3)) else (saronlaw06_KernelBack.j0 k t190 t196 t197 t198 bt220.1 bt220.2 bt224.1 bt224.2.1 bt224.2.2 true a0_0 a0_1 a0_2 l0_3))))))) = some r := H
  have A10 := zh A100
  clear A100
  replace H := Option.bind_eq_some_iff.mp H
  obtain ⟨⟨t205, t208⟩, A110, H⟩ := H
  replace H : ((saronlaw06_of.f t196 t201).bind fun bt209 => ((saronlaw06_of.f t197 t205).bind fun bt213 => ((kernel_Won.f a0_0 a0_1 a0_2 l0_3 (([(⟨bt209.1, bt209.2⟩ : S60), (⟨bt213.1, bt213.2⟩ : S60)] : List (S60)))).bind fun bt220 => ((kernel_Twins.f a0_0 a0_1 a0_2 l0_3 t196 t197).bind fun bt224 => (if t193 = 0 then (if t204 = 0 then (if t208 = 0 then (if bt224.2.2 = 0 then (saronlaw06_KernelBack.j0 k t190 t196 t197 t198 bt220.1 bt220.2 bt224.1 bt224.2.1 bt224.2.2 false a0_0 a0_1 a0_2 l0_3) else (saronlaw06_KernelBack.j0 k t190 t196 t197 t198 bt220.1 bt220.2 bt224.1 bt224.2.1 bt224.2.2 (bt224.2.2 != 4) a0_0 a0_1 a0_2 l0_3)) else (saronlaw06_KernelBack.j0 k t190 t196 t197 t198 bt220.1 bt220.2 bt224.1 bt224.2.1 bt224.2.2 true a0_0 a0_1 a0_2 l0_3)) else (saronlaw06_KernelBack.j0 k t190 t196 t197 t198 bt220.1 bt220.2 bt224.1 bt224.2.1 bt224.2.2 true a0_0 a0_1 a0_2 l0_3)) else (saronlaw06_KernelBack.j0 k t190 t196 t197 t198 bt220.1 bt220.2 bt224.1 bt224.2.1 bt224.2.2 true a0_0 a0_1 a0_2 l0_3)))))) = some r := H
  have A11 := zh A110
  clear A110
  replace H := Option.bind_eq_some_iff.mp H
  obtain ⟨⟨t209, t210⟩, A120, H⟩ := H
  replace H : ((saronlaw06_of.f t197 t205).bind fun bt213 => ((kernel_Won.f a0_0 a0_1 a0_2 l0_3 (([(⟨t209, t210⟩ : S60), (⟨bt213.1, bt213.2⟩ : S60)] : List (S60)))).bind fun bt220 => ((kernel_Twins.f a0_0 a0_1 a0_2 l0_3 t196 t197).bind fun bt224 => (if t193 = 0 then (if t204 = 0 then (if t208 = 0 then (if bt224.2.2 = 0 then (saronlaw06_KernelBack.j0 k t190 t196 t197 t198 bt220.1 bt220.2 bt224.1 bt224.2.1 bt224.2.2 false a0_0 a0_1 a0_2 l0_3) else (saronlaw06_KernelBack.j0 k t190 t196 t197 t198 bt220.1 bt220.2 bt224.1 bt224.2.1 bt224.2.2 (bt224.2.2 != 4) a0_0 a0_1 a0_2 l0_3)) else (saronlaw06_KernelBack.j0 k t190 t196 t197 t198 bt220.1 bt220.2 bt224.1 bt224.2.1 bt224.2.2 true a0_0 a0_1 a0_2 l0_3)) else (saronlaw06_KernelBack.j0 k t190 t196 t197 t198 bt220.1 bt220.2 bt224.1 bt224.2.1 bt224.2.2 true a0_0 a0_1 a0_2 l0_3)) else (saronlaw06_KernelBack.j0 k t190 t196 t197 t198 bt220.1 bt220.2 bt224.1 bt224.2.1 bt224.2.2 true a0_0 a0_1 a0_2 l0_3))))) = some r := H
  have A12 := zh A120
  clear A120
  replace H := Option.bind_eq_some_iff.mp H
  obtain ⟨⟨t213, t214⟩, A130, H⟩ := H
  replace H : ((kernel_Won.f a0_0 a0_1 a0_2 l0_3 (([(⟨t209, t210⟩ : S60), (⟨t213, t214⟩ : S60)] : List (S60)))).bind fun bt220 => ((kernel_Twins.f a0_0 a0_1 a0_2 l0_3 t196 t197).bind fun bt224 => (if t193 = 0 then (if t204 = 0 then (if t208 = 0 then (if bt224.2.2 = 0 then (saronlaw06_KernelBack.j0 k t190 t196 t197 t198 bt220.1 bt220.2 bt224.1 bt224.2.1 bt224.2.2 false a0_0 a0_1 a0_2 l0_3) else (saronlaw06_KernelBack.j0 k t190 t196 t197 t198 bt220.1 bt220.2 bt224.1 bt224.2.1 bt224.2.2 (bt224.2.2 != 4) a0_0 a0_1 a0_2 l0_3)) else (saronlaw06_KernelBack.j0 k t190 t196 t197 t198 bt220.1 bt220.2 bt224.1 bt224.2.1 bt224.2.2 true a0_0 a0_1 a0_2 l0_3)) else (saronlaw06_KernelBack.j0 k t190 t196 t197 t198 bt220.1 bt220.2 bt224.1 bt224.2.1 bt224.2.2 true a0_0 a0_1 a0_2 l0_3)) else (saronlaw06_KernelBack.j0 k t190 t196 t197 t198 bt220.1 bt220.2 bt224.1 bt224.2.1 bt224.2.2 true a0_0 a0_1 a0_2 l0_3)))) = some r := H
  have A13 := zh A130
  clear A130
  obtain ⟨y217, hy217⟩ : ∃ y_ : List (S60), y_ = (([(⟨t209, t210⟩ : S60), (⟨t213, t214⟩ : S60)] : List (S60))) := ⟨_, rfl⟩
  replace H : ((kernel_Won.f a0_0 a0_1 a0_2 l0_3 y217).bind fun bt220 => ((kernel_Twins.f a0_0 a0_1 a0_2 l0_3 t196 t197).bind fun bt224 => (if t193 = 0 then (if t204 = 0 then (if t208 = 0 then (if bt224.2.2 = 0 then (saronlaw06_KernelBack.j0 k t190 t196 t197 t198 bt220.1 bt220.2 bt224.1 bt224.2.1 bt224.2.2 false a0_0 a0_1 a0_2 l0_3) else (saronlaw06_KernelBack.j0 k t190 t196 t197 t198 bt220.1 bt220.2 bt224.1 bt224.2.1 bt224.2.2 (bt224.2.2 != 4) a0_0 a0_1 a0_2 l0_3)) else (saronlaw06_KernelBack.j0 k t190 t196 t197 t198 bt220.1 bt220.2 bt224.1 bt224.2.1 bt224.2.2 true a0_0 a0_1 a0_2 l0_3)) else (saronlaw06_KernelBack.j0 k t190 t196 t197 t198 bt220.1 bt220.2 bt224.1 bt224.2.1 bt224.2.2 true a0_0 a0_1 a0_2 l0_3)) else (saronlaw06_KernelBack.j0 k t190 t196 t197 t198 bt220.1 bt220.2 bt224.1 bt224.2.1 bt224.2.2 true a0_0 a0_1 a0_2 l0_3)))) = some r := by first | (rw [hy217]; with_reducible exact H) | (have H2_ := (Option.bind_some _ _).symm.trans H; rw [hy217]; with_reducible exact H2_) | (have H2_ := (Option.bind_some _ _).symm.trans H; with_reducible exact H2_) | with_reducible exact H | (rw [hy217]; exact H) | exact H
  have Ny217 := zh hy217
  clear hy217
  replace H := Option.bind_eq_some_iff.mp H
  obtain ⟨⟨t220, t223⟩, A140, H⟩ := H
  replace H : ((kernel_Twins.f a0_0 a0_1 a0_2 l0_3 t196 t197).bind fun bt224 => (if t193 = 0 then (if t204 = 0 then (if t208 = 0 then (if bt224.2.2 = 0 then (saronlaw06_KernelBack.j0 k t190 t196 t197 t198 t220 t223 bt224.1 bt224.2.1 bt224.2.2 false a0_0 a0_1 a0_2 l0_3) else (saronlaw06_KernelBack.j0 k t190 t196 t197 t198 t220 t223 bt224.1 bt224.2.1 bt224.2.2 (bt224.2.2 != 4) a0_0 a0_1 a0_2 l0_3)) else (saronlaw06_KernelBack.j0 k t190 t196 t197 t198 t220 t223 bt224.1 bt224.2.1 bt224.2.2 true a0_0 a0_1 a0_2 l0_3)) else (saronlaw06_KernelBack.j0 k t190 t196 t197 t198 t220 t223 bt224.1 bt224.2.1 bt224.2.2 true a0_0 a0_1 a0_2 l0_3)) else (saronlaw06_KernelBack.j0 k t190 t196 t197 t198 t220 t223 bt224.1 bt224.2.1 bt224.2.2 true a0_0 a0_1 a0_2 l0_3))) = some r := H
  have A14 := zh A140
  clear A140
  replace H := Option.bind_eq_some_iff.mp H
  obtain ⟨⟨t224, t227, t230⟩, A150, H⟩ := H
  replace H : (if t193 = 0 then (if t204 = 0 then (if t208 = 0 then (if t230 = 0 then (saronlaw06_KernelBack.j0 k t190 t196 t197 t198 t220 t223 t224 t227 t230 false a0_0 a0_1 a0_2 l0_3) else (saronlaw06_KernelBack.j0 k t190 t196 t197 t198 t220 t223 t224 t227 t230 (t230 != 4) a0_0 a0_1 a0_2 l0_3)) else (saronlaw06_KernelBack.j0 k t190 t196 t197 t198 t220 t223 t224 t227 t230 true a0_0 a0_1 a0_2 l0_3)) else (saronlaw06_KernelBack.j0 k t190 t196 t197 t198 t220 t223 t224 t227 t230 true a0_0 a0_1 a0_2 l0_3)) else (saronlaw06_KernelBack.j0 k t190 t196 t197 t198 t220 t223 t224 t227 t230 true a0_0 a0_1 a0_2 l0_3)) = some r := H
  have A15 := zh A150
  clear A150
  have HC16 := zh H
  clear H
  go_enter Tryd.func8, Tryd.ntmps8
  try go_wp2_with (first | ((with_reducible refine gate_dst (N := 3) rfl ?_); (try (refine gate_guard (by rfl) ?_; dsimp only)); refine box_event ?hg (N := 3) ?hd (cs := #[.int .i64 a0_0, .int .i64 a0_1, .int .i64 a0_2, .slice A0_3 l0_3.length c0_3]) (t := 24) ?hr ?_; (case hd => rfl); (case hg => rfl); (case hr => first | (go_simp; done) | (go_simp; rfl)); intro gb188 hg w17 hbox hb; have n0_ := zh (below_step zb hb); have n1_ := zh (hbox); have n2_ := zh ((by rw [hg]; exact (below_size zb) : w.heap.size ≤ gb188)); have n3_ := zh ((by rw [hg]; exact (below_size zb) : w.heap.size ≤ gb188)); clear HB; have HB := n0_; have BK188 := n1_; have GW188 := n2_; have GE188 := n3_; clear n0_ n1_ n2_ n3_; clear hb hbox hg) | ((with_reducible refine gate_dst (N := 4) rfl ?_); (try (refine gate_guard (by rfl) ?_; dsimp only)); refine box_event ?hg (N := 4) ?hd (cs := #[.int .i64 a1_0, .int .i64 a1_1]) (t := 61) ?hr ?_; (case hd => rfl); (case hg => rfl); (case hr => first | (go_simp; done) | (go_simp; rfl)); intro gb189 hg w18 hbox hb; have n0_ := zh (blk_below (g := gb188) (o := .cells #[.int .i64 a0_0, .int .i64 a0_1, .int .i64 a0_2, .slice A0_3 l0_3.length c0_3] 24 (0, 0)) (zc BK188) hb); have n1_ := zh (below_step zb hb); have n2_ := zh (hbox); have n3_ := zh ((by rw [hg]; exact (below_size zb) : w.heap.size ≤ gb189)); have n4_ := zh ((by rw [hg]; exact (below_size zb) : w.heap.size ≤ gb189)); have n5_ := zh ((by rw [hg]; exact Nat.ne_of_lt (blk_lt (g := gb188) (o := .cells #[.int .i64 a0_0, .int .i64 a0_1, .int .i64 a0_2, .slice A0_3 l0_3.length c0_3] 24 (0, 0)) (zc BK188)) : gb188 ≠ gb189)); have n6_ := zh ((by rw [hg]; exact Nat.ne_of_gt (blk_lt (g := gb188) (o := .cells #[.int .i64 a0_0, .int .i64 a0_1, .int .i64 a0_2, .slice A0_3 l0_3.length c0_3] 24 (0, 0)) (zc BK188)) : gb189 ≠ gb188)); clear BK188; clear HB; have BK188 := n0_; have HB := n1_; have BK189 := n2_; have GW189 := n3_; have GE189 := n4_; have NB188_189 := n5_; have NB189_188 := n6_; clear n0_ n1_ n2_ n3_ n4_ n5_ n6_; clear hb hbox hg; have hnb19 := NB188_189.out; have hnc19 := NB189_188.out; have hcz20_0 : w18.cell? ⟨gb188, 0, none⟩ = some (.int .i64 a0_0) := vb BK188 0; have hcz20_1 : w18.cell? ⟨gb188, 1, none⟩ = some (.int .i64 a0_1) := vb BK188 1; have hcz20_2 : w18.cell? ⟨gb188, 2, none⟩ = some (.int .i64 a0_2) := vb BK188 2; have hcz20_3 : w18.cell? ⟨gb188, 3, none⟩ = some (.slice A0_3 l0_3.length c0_3) := vb BK188 3; have hfz20_0 := blk_frozen BK188.out 0; have hfz20_1 := blk_frozen BK188.out 1; have hfz20_2 := blk_frozen BK188.out 2; have hfz20_3 := blk_frozen BK188.out 3) | ((with_reducible refine gate_callee (f := 33) rfl ?_); refine goesL_ (some 32) rfl rfl Tryd.func33 zk rfl #[.agg #[.int .i64 a0_0, .int .i64 a0_1, .int .i64 a0_2, .slice A0_3 l0_3.length c0_3]] rfl zm ?_; (with_reducible refine (kernel_Pairs.calls a0_0 a0_1 a0_2 _ _ l0_3 t190 t193 _ ?side1 ?side2 ?side3 A4.out).mono ?_); (case side1 => repeat (first | exact (Kd.C_below HR0_3.out HB.out) | (with_reducible refine Kd.C_alloc ?_ _) | (with_reducible refine Kd.C_drewN ?_ _) | (with_reducible refine Kd.C_drew ?_))); (case side2 => exact HC0_3.out); (case side3 => exact Glob.below HG.out zb); rintro e w21 ⟨v191, rfl, ho0, hb⟩; refine ⟨_, rfl, ?_⟩; have n0_ := zh (Kd.V_lower (Kd.V_mono (ok' := fun k_ => k_ ≠ gb188 ∧ k_ ≠ gb189) ho0 (fun k_ hk_ => ⟨(Kd.freshB (g := gb188) (o := .cells #[.int .i64 a0_0, .int .i64 a0_1, .int .i64 a0_2, .slice A0_3 l0_3.length c0_3] 24 (0, 0)) (zc BK188) k_ hk_), (Kd.freshB (g := gb189) (o := .cells #[.int .i64 a1_0, .int .i64 a1_1] 61 (0, 0)) (zc BK189) k_ hk_)⟩)) (below_size zb)); have n1_ := zh (blk_below (g := gb188) (o := .cells #[.int .i64 a0_0, .int .i64 a0_1, .int .i64 a0_2, .slice A0_3 l0_3.length c0_3] 24 (0, 0)) (zc BK188) hb); have n2_ := zh (blk_below (g := gb189) (o := .cells #[.int .i64 a1_0, .int .i64 a1_1] 61 (0, 0)) (zc BK189) hb); have n3_ := zh (below_step zb hb); clear BK188; clear BK189; clear HB; have HO192 := n0_; have BK188 := n1_; have BK189 := n2_; have HB := n3_; clear n0_ n1_ n2_ n3_; (try clear hb); (try clear hb2); (try clear hk); (try clear hi); (try clear ho0); have hcz22_0 : w21.cell? ⟨gb188, 0, none⟩ = some (.int .i64 a0_0) := vb BK188 0; have hcz22_1 : w21.cell? ⟨gb188, 1, none⟩ = some (.int .i64 a0_1) := vb BK188 1; have hcz22_2 : w21.cell? ⟨gb188, 2, none⟩ = some (.int .i64 a0_2) := vb BK188 2; have hcz22_3 : w21.cell? ⟨gb188, 3, none⟩ = some (.slice A0_3 l0_3.length c0_3) := vb BK188 3; have hfz22_0 := blk_frozen BK188.out 0; have hfz22_1 := blk_frozen BK188.out 1; have hfz22_2 := blk_frozen BK188.out 2; have hfz22_3 := blk_frozen BK188.out 3) | ((with_reducible refine gate_callee (f := 39) rfl ?_); refine goesL_ (some 36) rfl rfl Tryd.func39 zk rfl #[.agg #[.int .i64 a0_0, .int .i64 a0_1, .int .i64 a0_2, .slice A0_3 l0_3.length c0_3]] rfl zm ?_; (with_reducible refine (saronlaw06_sound.calls k a0_0 a0_1 a0_2 _ _ l0_3 true _ ?side1 ?side2 A5.out).mono ?_); (case side1 => repeat (first | exact (Kd.C_below HR0_3.out HB.out) | (with_reducible refine Kd.C_alloc ?_ _) | (with_reducible refine Kd.C_drewN ?_ _) | (with_reducible refine Kd.C_drew ?_))); (case side2 => exact HC0_3.out); rintro e w23 ⟨rfl, hb⟩; refine ⟨_, rfl, ?_⟩; have n0_ := zh (Kd.V_below (zV HO192) hb); have n1_ := zh (blk_below (g := gb188) (o := .cells #[.int .i64 a0_0, .int .i64 a0_1, .int .i64 a0_2, .slice A0_3 l0_3.length c0_3] 24 (0, 0)) (zc BK188) hb); have n2_ := zh (blk_below (g := gb189) (o := .cells #[.int .i64 a1_0, .int .i64 a1_1] 61 (0, 0)) (zc BK189) hb); have n3_ := zh (below_step zb hb); clear HO192; clear BK188; clear BK189; clear HB; have HO192 := n0_; have BK188 := n1_; have BK189 := n2_; have HB := n3_; clear n0_ n1_ n2_ n3_; (try clear hb); (try clear hb2); (try clear hk); (try clear hi)))
  replace HO192 := zh (Kd.V_drew HO192.out)
  replace BK188 := zh (blk_drew BK188.out)
  replace BK189 := zh (blk_drew BK189.out)
  replace HB := zh (below_drew1 HB.out)
  refine start_ (n := 14) (S := fun w' => w'.cell? ⟨gb189, 0, none⟩ = some (.int .i64 a1_0) ∧ w'.cell? ⟨gb189, 1, none⟩ = some (.int .i64 a1_1) ∧ w'.cell? ⟨gb188, 0, none⟩ = some (.int .i64 a0_0) ∧ w'.cell? ⟨gb188, 1, none⟩ = some (.int .i64 a0_1) ∧ w'.cell? ⟨gb188, 2, none⟩ = some (.int .i64 a0_2) ∧ w'.cell? ⟨gb188, 3, none⟩ = some (.slice A0_3 l0_3.length c0_3)) (ds := []) (Array.replicate 14 false) zk rfl rfl ⟨vb BK189 0, vb BK189 1, vb BK188 0, vb BK188 1, vb BK188 2, vb BK188 3⟩ (fun hHeld => ?_); refine with_tabW saronlaw06_KernelBack.tab4 saronlaw06_KernelBack.bits4 (fun HT_ HW_ => ?_)
  generalize w23.drew = w24 at HO192 BK188 BK189 HB hHeld ⊢
  refine zu 0 ?_
  refine zu 2 ?_
  refine zu 6 ?_
  refine zu 8 ?_
  refine zt 1 ?_
  refine zt 3 ?_
  refine zu 4 ?_
  refine zt 7 ?_
  refine zt 9 ?_
  refine zu 10 ?_
  refine zo 5 (fun K hK => ?_)
  refine goes_ Tryd.func42 zk rfl #[.int .i64 a1_0, .int .i64 (l0_3.length : Int)] (by rfl) rfl rfl zm ?_
  with_reducible refine (saronref00_Turn.calls a1_0 (l0_3.length : Int) t196 _ A7.out).mono ?_
  rintro e w' ⟨rfl, ⟨nd, rfl⟩⟩
  refine ⟨_, rfl, ?_⟩
  refine hK.out _ _ ⟨vb BK189 0, vb BK189 1, vb BK188 0, vb BK188 1, vb BK188 2, vb BK188 3⟩ (fun hHeld => ?_)
  clear hK K
  refine zr 53 _ ?_
  refine zo 11 (fun K hK => ?_)
  refine goes_ Tryd.func42 zk rfl #[.int .i64 a1_1, .int .i64 (l0_3.length : Int)] (by rfl) rfl rfl zm ?_
  with_reducible refine (saronref00_Turn.calls a1_1 (l0_3.length : Int) t197 _ A8.out).mono ?_
  rintro e w' ⟨rfl, ⟨nd, rfl⟩⟩
  refine ⟨_, rfl, ?_⟩
  refine hK.out _ _ ⟨vb BK189 0, vb BK189 1, vb BK188 0, vb BK188 1, vb BK188 2, vb BK188 3⟩ (fun hHeld => ?_)
  clear hK K
  refine zr 59 _ ?_
  refine zu 12 ?_
  refine zu 13 ?_
  refine zd ?_
  have hcz25_0 : w24.cell? ⟨gb188, 0, none⟩ = some (.int .i64 a0_0) := vb BK188 0
  have hcz25_1 : w24.cell? ⟨gb188, 1, none⟩ = some (.int .i64 a0_1) := vb BK188 1
  have hcz25_2 : w24.cell? ⟨gb188, 2, none⟩ = some (.int .i64 a0_2) := vb BK188 2
  have hcz25_3 : w24.cell? ⟨gb188, 3, none⟩ = some (.slice A0_3 l0_3.length c0_3) := vb BK188 3
  have hfz25_0 := blk_frozen BK188.out 0
  have hfz25_1 := blk_frozen BK188.out 1
  have hfz25_2 := blk_frozen BK188.out 2
  have hfz25_3 := blk_frozen BK188.out 3
  go_upto_region 11 with (first | ((with_reducible refine gate_callee (f := 40) rfl ?_); refine goesL_ (some 62) rfl rfl Tryd.func40 zk rfl #[.agg #[.int .i64 a0_0, .int .i64 a0_1, .int .i64 a0_2, .slice A0_3 l0_3.length c0_3], .slice A2 l2.length c2] rfl zm ?_; (with_reducible refine (saronlaw06_truly.calls k a0_0 a0_1 a0_2 _ _ l0_3 _ _ l2 t198 _ ?side1 ?side2 ?side3 ?side4 A9.out).mono ?_); (case side1 => repeat (first | exact (Kd.C_below HR0_3.out zb) | (with_reducible refine Kd.C_alloc ?_ _) | (with_reducible refine Kd.C_drewN ?_ _) | (with_reducible refine Kd.C_drew ?_))); (case side2 => exact HC0_3.out); (case side3 => repeat (first | exact (Kd.C_below HR2.out zb) | (with_reducible refine Kd.C_alloc ?_ _) | (with_reducible refine Kd.C_drewN ?_ _) | (with_reducible refine Kd.C_drew ?_))); (case side4 => exact HC2.out); rintro e w26 ⟨v199, rfl, ho0, hb⟩; refine ⟨_, rfl, ?_⟩; have n0_ := zh (Kd.V_elder' (zV HO192) (Kd.R_base ho0) hb); have n1_ := zh (Kd.R_lower ho0 (below_size zb)); have n2_ := zh (blk_below (g := gb188) (o := .cells #[.int .i64 a0_0, .int .i64 a0_1, .int .i64 a0_2, .slice A0_3 l0_3.length c0_3] 24 (0, 0)) (zc BK188) hb); have n3_ := zh (blk_below (g := gb189) (o := .cells #[.int .i64 a1_0, .int .i64 a1_1] 61 (0, 0)) (zc BK189) hb); have n4_ := zh (below_step zb hb); clear HO192; clear BK188; clear BK189; clear HB; have HO192 := n0_; have HO200 := n1_; have BK188 := n2_; have BK189 := n3_; have HB := n4_; clear n0_ n1_ n2_ n3_ n4_; (try clear hb); (try clear hb2); (try clear hk); (try clear hi); (try clear ho0); have hcz27_0 : w26.cell? ⟨gb188, 0, none⟩ = some (.int .i64 a0_0) := vb BK188 0; have hcz27_1 : w26.cell? ⟨gb188, 1, none⟩ = some (.int .i64 a0_1) := vb BK188 1; have hcz27_2 : w26.cell? ⟨gb188, 2, none⟩ = some (.int .i64 a0_2) := vb BK188 2; have hcz27_3 : w26.cell? ⟨gb188, 3, none⟩ = some (.slice A0_3 l0_3.length c0_3) := vb BK188 3; have hfz27_0 := blk_frozen BK188.out 0; have hfz27_1 := blk_frozen BK188.out 1; have hfz27_2 := blk_frozen BK188.out 2; have hfz27_3 := blk_frozen BK188.out 3; obtain ⟨Ao28, co28, eo28⟩ := Kd.R_slice HO200.out; subst eo28) | ((with_reducible refine gate_callee (f := 16) rfl ?_); refine goesL_ (some 67) rfl rfl Tryd.func16 zk rfl #[.agg #[.int .i64 a0_0, .int .i64 a0_1, .int .i64 a0_2, .slice A0_3 l0_3.length c0_3], .slice Ao28 t198.length co28, .int .i64 t196] rfl zm ?_; (with_reducible refine (kernel_Part.calls a0_0 a0_1 a0_2 _ _ l0_3 _ _ t198 t196 t201 t204 _ ?side1 ?side2 ?side3 ?side4 ?side5 A10.out).mono ?_); (case side1 => repeat (first | exact (Kd.C_below HR0_3.out HB.out) | (with_reducible refine Kd.C_alloc ?_ _) | (with_reducible refine Kd.C_drewN ?_ _) | (with_reducible refine Kd.C_drew ?_))); (case side2 => exact HC0_3.out); (case side3 => repeat (first | exact (Kd.R_reads' HO200.out).2.2 | (with_reducible refine Kd.C_alloc ?_ _) | (with_reducible refine Kd.C_drewN ?_ _) | (with_reducible refine Kd.C_drew ?_))); (case side4 => exact (Kd.R_reads' HO200.out).2.1); (case side5 => exact Glob.below HG.out zb); rintro e w29 ⟨v202, rfl, ho0, hb⟩; refine ⟨_, rfl, ?_⟩; have n0_ := zh (Kd.V_below (zV HO192) hb); have n1_ := zh (Kd.R_below (zR HO200) hb); have n2_ := zh (Kd.V_lower (Kd.V_mono (ok' := fun k_ => some k_ ≠ (.slice Ao28 t198.length co28 : Value).ownBlock ∧ k_ ≠ gb188 ∧ k_ ≠ gb189) ho0 (fun k_ hk_ => ⟨(Kd.fresh' (Kd.R_lt (zR HO200)) k_ hk_), (Kd.freshB (g := gb188) (o := .cells #[.int .i64 a0_0, .int .i64 a0_1, .int .i64 a0_2, .slice A0_3 l0_3.length c0_3] 24 (0, 0)) (zc BK188) k_ hk_), (Kd.freshB (g := gb189) (o := .cells #[.int .i64 a1_0, .int .i64 a1_1] 61 (0, 0)) (zc BK189) k_ hk_)⟩)) (below_size zb)); have n3_ := zh (blk_below (g := gb188) (o := .cells #[.int .i64 a0_0, .int .i64 a0_1, .int .i64 a0_2, .slice A0_3 l0_3.length c0_3] 24 (0, 0)) (zc BK188) hb); have n4_ := zh (blk_below (g := gb189) (o := .cells #[.int .i64 a1_0, .int .i64 a1_1] 61 (0, 0)) (zc BK189) hb); have n5_ := zh (below_step zb hb); clear HO192; clear HO200; clear BK188; clear BK189; clear HB; have HO192 := n0_; have HO200 := n1_; have HO203 := n2_; have BK188 := n3_; have BK189 := n4_; have HB := n5_; clear n0_ n1_ n2_ n3_ n4_ n5_; (try clear hb); (try clear hb2); (try clear hk); (try clear hi); (try clear ho0); have hcz30_0 : w29.cell? ⟨gb188, 0, none⟩ = some (.int .i64 a0_0) := vb BK188 0; have hcz30_1 : w29.cell? ⟨gb188, 1, none⟩ = some (.int .i64 a0_1) := vb BK188 1; have hcz30_2 : w29.cell? ⟨gb188, 2, none⟩ = some (.int .i64 a0_2) := vb BK188 2; have hcz30_3 : w29.cell? ⟨gb188, 3, none⟩ = some (.slice A0_3 l0_3.length c0_3) := vb BK188 3; have hfz30_0 := blk_frozen BK188.out 0; have hfz30_1 := blk_frozen BK188.out 1; have hfz30_2 := blk_frozen BK188.out 2; have hfz30_3 := blk_frozen BK188.out 3) | ((with_reducible refine gate_callee (f := 16) rfl ?_); refine goesL_ (some 74) rfl rfl Tryd.func16 zk rfl #[.agg #[.int .i64 a0_0, .int .i64 a0_1, .int .i64 a0_2, .slice A0_3 l0_3.length c0_3], .slice Ao28 t198.length co28, .int .i64 t197] rfl zm ?_; (with_reducible refine (kernel_Part.calls a0_0 a0_1 a0_2 _ _ l0_3 _ _ t198 t197 t205 t208 _ ?side1 ?side2 ?side3 ?side4 ?side5 A11.out).mono ?_); (case side1 => repeat (first | exact (Kd.C_below HR0_3.out HB.out) | (with_reducible refine Kd.C_alloc ?_ _) | (with_reducible refine Kd.C_drewN ?_ _) | (with_reducible refine Kd.C_drew ?_))); (case side2 => exact HC0_3.out); (case side3 => repeat (first | exact (Kd.R_reads' HO200.out).2.2 | (with_reducible refine Kd.C_alloc ?_ _) | (with_reducible refine Kd.C_drewN ?_ _) | (with_reducible refine Kd.C_drew ?_))); (case side4 => exact (Kd.R_reads' HO200.out).2.1); (case side5 => exact Glob.below HG.out zb); rintro e w31 ⟨v206, rfl, ho0, hb⟩; refine ⟨_, rfl, ?_⟩; have n0_ := zh (Kd.V_below (zV HO192) hb); have n1_ := zh (Kd.R_below (zR HO200) hb); have n2_ := zh (Kd.V_below (zV HO203) hb); have n3_ := zh (Kd.V_lower (Kd.V_mono (ok' := fun k_ => some k_ ≠ (.slice Ao28 t198.length co28 : Value).ownBlock ∧ k_ ≠ gb188 ∧ k_ ≠ gb189) ho0 (fun k_ hk_ => ⟨(Kd.fresh' (Kd.R_lt (zR HO200)) k_ hk_), (Kd.freshB (g := gb188) (o := .cells #[.int .i64 a0_0, .int .i64 a0_1, .int .i64 a0_2, .slice A0_3 l0_3.length c0_3] 24 (0, 0)) (zc BK188) k_ hk_), (Kd.freshB (g := gb189) (o := .cells #[.int .i64 a1_0, .int .i64 a1_1] 61 (0, 0)) (zc BK189) k_ hk_)⟩)) (below_size zb)); have n4_ := zh (blk_below (g := gb188) (o := .cells #[.int .i64 a0_0, .int .i64 a0_1, .int .i64 a0_2, .slice A0_3 l0_3.length c0_3] 24 (0, 0)) (zc BK188) hb); have n5_ := zh (blk_below (g := gb189) (o := .cells #[.int .i64 a1_0, .int .i64 a1_1] 61 (0, 0)) (zc BK189) hb); have n6_ := zh (below_step zb hb); clear HO192; clear HO200; clear HO203; clear BK188; clear BK189; clear HB; have HO192 := n0_; have HO200 := n1_; have HO203 := n2_; have HO207 := n3_; have BK188 := n4_; have BK189 := n5_; have HB := n6_; clear n0_ n1_ n2_ n3_ n4_ n5_ n6_; (try clear hb); (try clear hb2); (try clear hk); (try clear hi); (try clear ho0); obtain ⟨Ao32, co32, eo32⟩ := Kd.V_slice HO203.out; subst eo32) | ((with_reducible refine gate_callee (f := 44) rfl ?_); refine goesL_ (some 79) rfl rfl Tryd.func44 zk rfl #[.int .i64 t196, .slice Ao32 t201.length co32] rfl zm ?_; (with_reducible refine (saronlaw06_of.callsS t196 (fun k_ => (some k_ ≠ (.slice Ao28 t198.length co28 : Value).ownBlock ∧ (k_ ≠ gb188 ∧ k_ ≠ gb189))) _ _ t201 t209 t210 _ ?side1 A12.out).mono ?_); (case side1 => exact HO203.out); rintro e w33 ⟨v211, rfl, ho0, hb⟩; refine ⟨_, rfl, ?_⟩; have n0_ := zh (Kd.V_below (zV HO192) hb); have n1_ := zh (Kd.R_below (zR HO200) hb); have n2_ := zh (Kd.V_below (zV HO203) hb); have n3_ := zh (Kd.V_below (zV HO207) hb); have n4_ := zh (Kd.V_lower (Kd.V_mono (ok' := fun k_ => some k_ ≠ (.slice Ao28 t198.length co28 : Value).ownBlock ∧ k_ ≠ gb188 ∧ k_ ≠ gb189) ho0 (fun k_ hk_ => ⟨Or.elim hk_ (fun hs_ => hs_.1) (fun hn_ => (Kd.fresh' (Kd.R_lt (zR HO200)) k_ hn_)), Or.elim hk_ (fun hs_ => hs_.2.1) (fun hn_ => (Kd.freshB (g := gb188) (o := .cells #[.int .i64 a0_0, .int .i64 a0_1, .int .i64 a0_2, .slice A0_3 l0_3.length c0_3] 24 (0, 0)) (zc BK188) k_ hn_)), Or.elim hk_ (fun hs_ => hs_.2.2) (fun hn_ => (Kd.freshB (g := gb189) (o := .cells #[.int .i64 a1_0, .int .i64 a1_1] 61 (0, 0)) (zc BK189) k_ hn_))⟩)) (below_size zb)); have n5_ := zh (blk_below (g := gb188) (o := .cells #[.int .i64 a0_0, .int .i64 a0_1, .int .i64 a0_2, .slice A0_3 l0_3.length c0_3] 24 (0, 0)) (zc BK188) hb); have n6_ := zh (blk_below (g := gb189) (o := .cells #[.int .i64 a1_0, .int .i64 a1_1] 61 (0, 0)) (zc BK189) hb); have n7_ := zh (below_step zb hb); clear HO192; clear HO200; clear HO203; clear HO207; clear BK188; clear BK189; clear HB; have HO192 := n0_; have HO200 := n1_; have HO203 := n2_; have HO207 := n3_; have HO212 := n4_; have BK188 := n5_; have BK189 := n6_; have HB := n7_; clear n0_ n1_ n2_ n3_ n4_ n5_ n6_ n7_; (try clear hb); (try clear hb2); (try clear hk); (try clear hi); (try clear ho0); obtain ⟨Ao34, co34, eo34⟩ := Kd.V_slice HO207.out; subst eo34) | ((with_reducible refine gate_callee (f := 44) rfl ?_); refine goesL_ (some 82) rfl rfl Tryd.func44 zk rfl #[.int .i64 t197, .slice Ao34 t205.length co34] rfl zm ?_; (with_reducible refine (saronlaw06_of.callsS t197 (fun k_ => (some k_ ≠ (.slice Ao28 t198.length co28 : Value).ownBlock ∧ (k_ ≠ gb188 ∧ k_ ≠ gb189))) _ _ t205 t213 t214 _ ?side1 A13.out).mono ?_); (case side1 => exact HO207.out); rintro e w35 ⟨v215, rfl, ho0, hb⟩; refine ⟨_, rfl, ?_⟩; have n0_ := zh (Kd.V_below (zV HO192) hb); have n1_ := zh (Kd.R_below (zR HO200) hb); have n2_ := zh (Kd.V_below (zV HO203) hb); have n3_ := zh (Kd.V_below (zV HO207) hb); have n4_ := zh (Kd.V_below (zV HO212) hb); have n5_ := zh (Kd.V_lower (Kd.V_mono (ok' := fun k_ => some k_ ≠ (.slice Ao28 t198.length co28 : Value).ownBlock ∧ k_ ≠ gb188 ∧ k_ ≠ gb189) ho0 (fun k_ hk_ => ⟨Or.elim hk_ (fun hs_ => hs_.1) (fun hn_ => (Kd.fresh' (Kd.R_lt (zR HO200)) k_ hn_)), Or.elim hk_ (fun hs_ => hs_.2.1) (fun hn_ => (Kd.freshB (g := gb188) (o := .cells #[.int .i64 a0_0, .int .i64 a0_1, .int .i64 a0_2, .slice A0_3 l0_3.length c0_3] 24 (0, 0)) (zc BK188) k_ hn_)), Or.elim hk_ (fun hs_ => hs_.2.2) (fun hn_ => (Kd.freshB (g := gb189) (o := .cells #[.int .i64 a1_0, .int .i64 a1_1] 61 (0, 0)) (zc BK189) k_ hn_))⟩)) (below_size zb)); have n6_ := zh (blk_below (g := gb188) (o := .cells #[.int .i64 a0_0, .int .i64 a0_1, .int .i64 a0_2, .slice A0_3 l0_3.length c0_3] 24 (0, 0)) (zc BK188) hb); have n7_ := zh (blk_below (g := gb189) (o := .cells #[.int .i64 a1_0, .int .i64 a1_1] 61 (0, 0)) (zc BK189) hb); have n8_ := zh (below_step zb hb); clear HO192; clear HO200; clear HO203; clear HO207; clear HO212; clear BK188; clear BK189; clear HB; have HO192 := n0_; have HO200 := n1_; have HO203 := n2_; have HO207 := n3_; have HO212 := n4_; have HO216 := n5_; have BK188 := n6_; have BK189 := n7_; have HB := n8_; clear n0_ n1_ n2_ n3_ n4_ n5_ n6_ n7_ n8_; (try clear hb); (try clear hb2); (try clear hk); (try clear hi); (try clear ho0); obtain ⟨Ao36, co36, eo36⟩ := Kd.V_slice HO212.out; subst eo36; obtain ⟨Ao37, co37, eo37⟩ := Kd.V_slice HO216.out; subst eo37) | ((with_reducible refine gate_dst (N := 83) rfl ?_); (try (refine gate_guard (by rfl) ?_; dsimp only)); refine Kd.N_lit k60 _ 60 ?hg (N' := 83) ?hd (xs := ([(⟨t209, t210⟩ : S60), (⟨t213, t214⟩ : S60)] : List (S60))) (inner := [.int .i64 t209, .slice Ao36 t210.length co36, .int .i64 t213, .slice Ao37 t214.length co37]) (ok := (fun k_ => some k_ ≠ (.slice Ao28 t198.length co28 : Value).ownBlock ∧ k_ ≠ gb188 ∧ k_ ≠ gb189)) (okp := (fun k_ => some k_ ≠ (.slice Ao28 t198.length co28 : Value).ownBlock ∧ k_ ≠ gb188 ∧ k_ ≠ gb189)) ?hr ?hp (fun _ hk => hk) ((show ∀ k_, w35.heap.size ≤ k_ → (fun k_ => some k_ ≠ (.slice Ao28 t198.length co28 : Value).ownBlock ∧ k_ ≠ gb188 ∧ k_ ≠ gb189) k_ from fun k_ hk => ⟨Kd.fresh' (Kd.R_lt (zR HO200)) k_ hk, Kd.freshB (g := gb188) (o := .cells #[.int .i64 a0_0, .int .i64 a0_1, .int .i64 a0_2, .slice A0_3 l0_3.length c0_3] 24 (0, 0)) (zc BK188) k_ hk, Kd.freshB (g := gb189) (o := .cells #[.int .i64 a1_0, .int .i64 a1_1] 61 (0, 0)) (zc BK189) k_ hk⟩) _ (Nat.le_refl _)) (Below.refl _ _) (Nat.le_refl _) (by simp) ?_; (case hd => rfl); (case hg => rfl); (case hr => first | (go_simp; done) | (go_simp; rfl)); (case hp => exact (Reps.c2 (show Kd.FK k60 _ _ (⟨t209, t210⟩ : S60) [.int .i64 t209, .slice Ao36 t210.length co36] from (k60_mkF _ _ (⟨t209, t210⟩ : S60) (Kd.V_reads' (Kd.V_mono (ok' := (fun k_ => some k_ ≠ (.slice Ao28 t198.length co28 : Value).ownBlock ∧ k_ ≠ gb188 ∧ k_ ≠ gb189)) (HO212.out) (fun k_ hk => ⟨hk.1, ⟨hk.2.1, hk.2.2⟩⟩))).2.1 (Kd.V_F (Kd.V_mono (ok' := (fun k_ => some k_ ≠ (.slice Ao28 t198.length co28 : Value).ownBlock ∧ k_ ≠ gb188 ∧ k_ ≠ gb189)) (HO212.out) (fun k_ hk => ⟨hk.1, ⟨hk.2.1, hk.2.2⟩⟩))))) (Reps.c2 (show Kd.FK k60 _ _ (⟨t213, t214⟩ : S60) [.int .i64 t213, .slice Ao37 t214.length co37] from (k60_mkF _ _ (⟨t213, t214⟩ : S60) (Kd.V_reads' (Kd.V_mono (ok' := (fun k_ => some k_ ≠ (.slice Ao28 t198.length co28 : Value).ownBlock ∧ k_ ≠ gb188 ∧ k_ ≠ gb189)) (HO216.out) (fun k_ hk => ⟨hk.1, ⟨hk.2.1, hk.2.2⟩⟩))).2.1 (Kd.V_F (Kd.V_mono (ok' := (fun k_ => some k_ ≠ (.slice Ao28 t198.length co28 : Value).ownBlock ∧ k_ ≠ gb188 ∧ k_ ≠ gb189)) (HO216.out) (fun k_ hk => ⟨hk.1, ⟨hk.2.1, hk.2.2⟩⟩))))) (Reps.none _ _)))); intro v218 w38 ho39 hb hg_ hnew_; clear hg_ hnew_; (first | rw [← Ny217.out] at ho39 | (simp only [Int.reduceToNat] at ho39; rw [← Ny217.out] at ho39)); have n0_ := zh (Kd.V_elder' (zV HO192) (Kd.N_base ho39) hb); have n1_ := zh (Kd.R_below (zR HO200) hb); have n2_ := zh (Kd.V_elder' (zV HO203) (Kd.N_base ho39) hb); have n3_ := zh (Kd.V_elder' (zV HO207) (Kd.N_base ho39) hb); have n4_ := zh (Kd.V_elder' (zV HO212) (Kd.N_base ho39) hb); have n5_ := zh (Kd.V_elder' (zV HO216) (Kd.N_base ho39) hb); have n6_ := zh (Kd.N_lower ho39 (below_size zb)); have n7_ := zh (blk_below (g := gb188) (o := .cells #[.int .i64 a0_0, .int .i64 a0_1, .int .i64 a0_2, .slice A0_3 l0_3.length c0_3] 24 (0, 0)) (zc BK188) hb); have n8_ := zh (blk_below (g := gb189) (o := .cells #[.int .i64 a1_0, .int .i64 a1_1] 61 (0, 0)) (zc BK189) hb); have n9_ := zh (below_step zb hb); clear HO192; clear HO200; clear HO203; clear HO207; clear HO212; clear HO216; clear BK188; clear BK189; clear HB; have HO192 := n0_; have HO200 := n1_; have HO203 := n2_; have HO207 := n3_; have HO212 := n4_; have HO216 := n5_; have HO219 := n6_; have BK188 := n7_; have BK189 := n8_; have HB := n9_; clear n0_ n1_ n2_ n3_ n4_ n5_ n6_ n7_ n8_ n9_; clear hb ho39; have hcz40_0 : w38.cell? ⟨gb188, 0, none⟩ = some (.int .i64 a0_0) := vb BK188 0; have hcz40_1 : w38.cell? ⟨gb188, 1, none⟩ = some (.int .i64 a0_1) := vb BK188 1; have hcz40_2 : w38.cell? ⟨gb188, 2, none⟩ = some (.int .i64 a0_2) := vb BK188 2; have hcz40_3 : w38.cell? ⟨gb188, 3, none⟩ = some (.slice A0_3 l0_3.length c0_3) := vb BK188 3; have hfz40_0 := blk_frozen BK188.out 0; have hfz40_1 := blk_frozen BK188.out 1; have hfz40_2 := blk_frozen BK188.out 2; have hfz40_3 := blk_frozen BK188.out 3; obtain ⟨Ao41, co41, eo41⟩ := Kd.N_slice HO219.out; subst eo41) | ((with_reducible refine gate_callee (f := 26) rfl ?_); refine goesL_ (some 87) rfl rfl Tryd.func26 zk rfl #[.agg #[.int .i64 a0_0, .int .i64 a0_1, .int .i64 a0_2, .slice A0_3 l0_3.length c0_3], .slice Ao41 y217.length co41] rfl zm ?_; (with_reducible refine (kernel_Won.calls a0_0 a0_1 a0_2 _ _ l0_3 _ _ y217 t220 t223 _ ?side1 ?side2 ?side3 ?side4 ?side5 A14.out).mono ?_); (case side1 => repeat (first | exact (Kd.C_below HR0_3.out HB.out) | (with_reducible refine Kd.C_alloc ?_ _) | (with_reducible refine Kd.C_drewN ?_ _) | (with_reducible refine Kd.C_drew ?_))); (case side2 => exact HC0_3.out); (case side3 => repeat (first | exact (Kd.N_reads' HO219.out).2.2 | (with_reducible refine Kd.C_alloc ?_ _) | (with_reducible refine Kd.C_drewN ?_ _) | (with_reducible refine Kd.C_drew ?_))); (case side4 => exact (Kd.N_reads' HO219.out).2.1); (case side5 => exact Glob.below HG.out zb); rintro e w42 ⟨v221, rfl, ho0, hb⟩; refine ⟨_, rfl, ?_⟩; have n0_ := zh (Kd.V_below (zV HO192) hb); have n1_ := zh (Kd.R_below (zR HO200) hb); have n2_ := zh (Kd.V_below (zV HO203) hb); have n3_ := zh (Kd.V_below (zV HO207) hb); have n4_ := zh (Kd.V_below (zV HO212) hb); have n5_ := zh (Kd.V_below (zV HO216) hb); have n6_ := zh (Kd.N_below (zN HO219) hb); have n7_ := zh (Kd.V_lower (Kd.V_mono (ok' := fun k_ => some k_ ≠ (.slice Ao28 t198.length co28 : Value).ownBlock ∧ some k_ ≠ (.slice Ao41 y217.length co41 : Value).ownBlock ∧ k_ ≠ gb188 ∧ k_ ≠ gb189) ho0 (fun k_ hk_ => ⟨(Kd.fresh' (Kd.R_lt (zR HO200)) k_ hk_), (Kd.fresh' (Kd.N_lt (zN HO219)) k_ hk_), (Kd.freshB (g := gb188) (o := .cells #[.int .i64 a0_0, .int .i64 a0_1, .int .i64 a0_2, .slice A0_3 l0_3.length c0_3] 24 (0, 0)) (zc BK188) k_ hk_), (Kd.freshB (g := gb189) (o := .cells #[.int .i64 a1_0, .int .i64 a1_1] 61 (0, 0)) (zc BK189) k_ hk_)⟩)) (below_size zb)); have n8_ := zh (blk_below (g := gb188) (o := .cells #[.int .i64 a0_0, .int .i64 a0_1, .int .i64 a0_2, .slice A0_3 l0_3.length c0_3] 24 (0, 0)) (zc BK188) hb); have n9_ := zh (blk_below (g := gb189) (o := .cells #[.int .i64 a1_0, .int .i64 a1_1] 61 (0, 0)) (zc BK189) hb); have n10_ := zh (below_step zb hb); clear HO192; clear HO200; clear HO203; clear HO207; clear HO212; clear HO216; clear HO219; clear BK188; clear BK189; clear HB; have HO192 := n0_; have HO200 := n1_; have HO203 := n2_; have HO207 := n3_; have HO212 := n4_; have HO216 := n5_; have HO219 := n6_; have HO222 := n7_; have BK188 := n8_; have BK189 := n9_; have HB := n10_; clear n0_ n1_ n2_ n3_ n4_ n5_ n6_ n7_ n8_ n9_ n10_; (try clear hb); (try clear hb2); (try clear hk); (try clear hi); (try clear ho0); have hcz43_0 : w42.cell? ⟨gb188, 0, none⟩ = some (.int .i64 a0_0) := vb BK188 0; have hcz43_1 : w42.cell? ⟨gb188, 1, none⟩ = some (.int .i64 a0_1) := vb BK188 1; have hcz43_2 : w42.cell? ⟨gb188, 2, none⟩ = some (.int .i64 a0_2) := vb BK188 2; have hcz43_3 : w42.cell? ⟨gb188, 3, none⟩ = some (.slice A0_3 l0_3.length c0_3) := vb BK188 3; have hfz43_0 := blk_frozen BK188.out 0; have hfz43_1 := blk_frozen BK188.out 1; have hfz43_2 := blk_frozen BK188.out 2; have hfz43_3 := blk_frozen BK188.out 3) | ((with_reducible refine gate_callee (f := 36) rfl ?_); refine goesL_ (some 94) rfl rfl Tryd.func36 zk rfl #[.agg #[.int .i64 a0_0, .int .i64 a0_1, .int .i64 a0_2, .slice A0_3 l0_3.length c0_3], .int .i64 t196, .int .i64 t197] rfl zm ?_; (with_reducible refine (kernel_Twins.calls a0_0 a0_1 a0_2 _ _ l0_3 t196 t197 t224 t227 t230 _ ?side1 ?side2 ?side3 A15.out).mono ?_); (case side1 => repeat (first | exact (Kd.C_below HR0_3.out HB.out) | (with_reducible refine Kd.C_alloc ?_ _) | (with_reducible refine Kd.C_drewN ?_ _) | (with_reducible refine Kd.C_drew ?_))); (case side2 => exact HC0_3.out); (case side3 => exact Glob.below HG.out zb); rintro e w44 ⟨v225, v228, rfl, ho0, ho1, hb⟩; refine ⟨_, rfl, ?_⟩; have n0_ := zh (Kd.V_below (zV HO192) hb); have n1_ := zh (Kd.R_below (zR HO200) hb); have n2_ := zh (Kd.V_below (zV HO203) hb); have n3_ := zh (Kd.V_below (zV HO207) hb); have n4_ := zh (Kd.V_below (zV HO212) hb); have n5_ := zh (Kd.V_below (zV HO216) hb); have n6_ := zh (Kd.N_below (zN HO219) hb); have n7_ := zh (Kd.V_below (zV HO222) hb); have n8_ := zh (Kd.V_lower (Kd.V_mono (ok' := fun k_ => some k_ ≠ (.slice Ao28 t198.length co28 : Value).ownBlock ∧ some k_ ≠ (.slice Ao41 y217.length co41 : Value).ownBlock ∧ k_ ≠ gb188 ∧ k_ ≠ gb189) ho0 (fun k_ hk_ => ⟨(Kd.fresh' (Kd.R_lt (zR HO200)) k_ hk_), (Kd.fresh' (Kd.N_lt (zN HO219)) k_ hk_), (Kd.freshB (g := gb188) (o := .cells #[.int .i64 a0_0, .int .i64 a0_1, .int .i64 a0_2, .slice A0_3 l0_3.length c0_3] 24 (0, 0)) (zc BK188) k_ hk_), (Kd.freshB (g := gb189) (o := .cells #[.int .i64 a1_0, .int .i64 a1_1] 61 (0, 0)) (zc BK189) k_ hk_)⟩)) (below_size zb)); have n9_ := zh (Kd.V_lower (Kd.V_mono (ok' := fun k_ => some k_ ≠ (.slice Ao28 t198.length co28 : Value).ownBlock ∧ some k_ ≠ (.slice Ao41 y217.length co41 : Value).ownBlock ∧ k_ ≠ gb188 ∧ k_ ≠ gb189) ho1 (fun k_ hk_ => ⟨(Kd.fresh' (Kd.R_lt (zR HO200)) k_ hk_), (Kd.fresh' (Kd.N_lt (zN HO219)) k_ hk_), (Kd.freshB (g := gb188) (o := .cells #[.int .i64 a0_0, .int .i64 a0_1, .int .i64 a0_2, .slice A0_3 l0_3.length c0_3] 24 (0, 0)) (zc BK188) k_ hk_), (Kd.freshB (g := gb189) (o := .cells #[.int .i64 a1_0, .int .i64 a1_1] 61 (0, 0)) (zc BK189) k_ hk_)⟩)) (below_size zb)); have n10_ := zh (blk_below (g := gb188) (o := .cells #[.int .i64 a0_0, .int .i64 a0_1, .int .i64 a0_2, .slice A0_3 l0_3.length c0_3] 24 (0, 0)) (zc BK188) hb); have n11_ := zh (blk_below (g := gb189) (o := .cells #[.int .i64 a1_0, .int .i64 a1_1] 61 (0, 0)) (zc BK189) hb); have n12_ := zh (below_step zb hb); clear HO192; clear HO200; clear HO203; clear HO207; clear HO212; clear HO216; clear HO219; clear HO222; clear BK188; clear BK189; clear HB; have HO192 := n0_; have HO200 := n1_; have HO203 := n2_; have HO207 := n3_; have HO212 := n4_; have HO216 := n5_; have HO219 := n6_; have HO222 := n7_; have HO226 := n8_; have HO229 := n9_; have BK188 := n10_; have BK189 := n11_; have HB := n12_; clear n0_ n1_ n2_ n3_ n4_ n5_ n6_ n7_ n8_ n9_ n10_ n11_ n12_; (try clear hb); (try clear hb2); (try clear hk); (try clear hi); (try clear ho0); (try clear ho1)))
  (try simp only [Act.put, List.setIfInBounds_toArray, List.set_cons_zero, List.set_cons_succ])
  go_cut [115] (fun v115 wc => ∃ (kq : Nat) (x115_15 : Bool), v115 = .bool x115_15 ∧ Aside0 (saronlaw06_KernelBack.j0 kq t190 t196 t197 t198 t220 t223 t224 t227 t230 x115_15 a0_0 a0_1 a0_2 l0_3 = some r) ∧ Aside0 (kq ≤ k) ∧ Aside0 (Kd.V k61 61 wc w.heap.size (fun k_ => some k_ ≠ ((.slice Ao28 t198.length co28) : Value).ownBlock ∧ k_ ≠ gb188 ∧ k_ ≠ gb189) v191 t190) ∧ Aside0 (Kd.R (Kd.int .i64) 3 wc w.heap.size (fun _ => True) (.slice Ao28 t198.length co28) t198) ∧ Aside0 (Kd.V (Kd.int .i64) 3 wc w.heap.size (fun k_ => some k_ ≠ ((.slice Ao28 t198.length co28) : Value).ownBlock ∧ k_ ≠ gb188 ∧ k_ ≠ gb189) v221 t220) ∧ Aside0 (Kd.V (Kd.int .i64) 3 wc w.heap.size (fun k_ => some k_ ≠ ((.slice Ao28 t198.length co28) : Value).ownBlock ∧ k_ ≠ gb188 ∧ k_ ≠ gb189) v225 t224) ∧ Aside0 (Kd.V (Kd.int .i64) 3 wc w.heap.size (fun k_ => some k_ ≠ ((.slice Ao28 t198.length co28) : Value).ownBlock ∧ k_ ≠ gb188 ∧ k_ ≠ gb189) v228 t227) ∧ Aside0 (wc.heap[gb188]? = some (.cells #[.int .i64 a0_0, .int .i64 a0_1, .int .i64 a0_2, (.slice A0_3 l0_3.length c0_3)] 24 (0, 0))) ∧ Aside0 (wc.heap[gb189]? = some (.cells #[.int .i64 a1_0, .int .i64 a1_1] 61 (0, 0))) ∧ Aside0 (Below w.heap.size w wc))
  case first =>
   as_aux_lemma =>
    have H := HC16.out
    clear HC16
    by_cases c45 : t193 = 0
    ·rw [if_pos c45] at H
     have c45b0 : (t193 == 0) = true := beq_iff_eq.mpr c45
     have c45b1 : (t193 != 0) = false := bne_eq_false_iff_eq.mpr c45
     clear c45
     (first | rw [c45b0] | (simp only [i64_w, i32_w]; rw [c45b0]) | skip)
     by_cases c46 : t204 = 0
     ·rw [if_pos c46] at H
      have c46b0 : (t204 == 0) = true := beq_iff_eq.mpr c46
      have c46b1 : (t204 != 0) = false := bne_eq_false_iff_eq.mpr c46
      clear c46
      by_cases c47 : t208 = 0
      ·rw [if_pos c47] at H
       have c47b0 : (t208 == 0) = true := beq_iff_eq.mpr c47
       have c47b1 : (t208 != 0) = false := bne_eq_false_iff_eq.mpr c47
       clear c47
       by_cases c48 : t230 = 0
       ·rw [if_pos c48] at H
        have c48b0 : (t230 == 0) = true := beq_iff_eq.mpr c48
        have c48b1 : (t230 != 0) = false := bne_eq_false_iff_eq.mpr c48
        clear c48
        have H' := zh H
        clear H
        go_wp2
        go_meet
        case rel => exact ⟨_, (false), ze, H', ⟨zo1⟩, ⟨by (with_reducible repeat (first | apply Kd.V_alloc | apply Kd.V_drewN | apply Kd.V_drew)); exact Kd.V_mono HO192.out (fun _ hk => ⟨hk.1.2, ⟨hk.1.1.1, hk.1.1.2⟩⟩)⟩, ⟨zR HO200⟩, ⟨by (with_reducible repeat (first | apply Kd.V_alloc | apply Kd.V_drewN | apply Kd.V_drew)); exact Kd.V_mono HO222.out (fun _ hk => ⟨hk.1, ⟨hk.2.2.1, hk.2.2.2⟩⟩)⟩, ⟨by (with_reducible repeat (first | apply Kd.V_alloc | apply Kd.V_drewN | apply Kd.V_drew)); exact Kd.V_mono HO226.out (fun _ hk => ⟨hk.1, ⟨hk.2.2.1, hk.2.2.2⟩⟩)⟩, ⟨by (with_reducible repeat (first | apply Kd.V_alloc | apply Kd.V_drewN | apply Kd.V_drew)); exact Kd.V_mono HO229.out (fun _ hk => ⟨hk.1, ⟨hk.2.2.1, hk.2.2.2⟩⟩)⟩, ⟨zc BK188⟩, ⟨zc BK189⟩, ⟨zb⟩⟩
       ·rw [if_neg c48] at H
        have c48b0 : (t230 == 0) = false := beq_eq_false_iff_ne.mpr c48
        have c48b1 : (t230 != 0) = true := bne_iff_ne.mpr c48
        have H' := zh H
        clear H
        go_wp2
        go_meet
        case rel => exact ⟨_, ((t230 != 4)), ze, H', ⟨zo1⟩, ⟨by (with_reducible repeat (first | apply Kd.V_alloc | apply Kd.V_drewN | apply Kd.V_drew)); exact Kd.V_mono HO192.out (fun _ hk => ⟨hk.1.2, ⟨hk.1.1.1, hk.1.1.2⟩⟩)⟩, ⟨zR HO200⟩, ⟨by (with_reducible repeat (first | apply Kd.V_alloc | apply Kd.V_drewN | apply Kd.V_drew)); exact Kd.V_mono HO222.out (fun _ hk => ⟨hk.1, ⟨hk.2.2.1, hk.2.2.2⟩⟩)⟩, ⟨by (with_reducible repeat (first | apply Kd.V_alloc | apply Kd.V_drewN | apply Kd.V_drew)); exact Kd.V_mono HO226.out (fun _ hk => ⟨hk.1, ⟨hk.2.2.1, hk.2.2.2⟩⟩)⟩, ⟨by (with_reducible repeat (first | apply Kd.V_alloc | apply Kd.V_drewN | apply Kd.V_drew)); exact Kd.V_mono HO229.out (fun _ hk => ⟨hk.1, ⟨hk.2.2.1, hk.2.2.2⟩⟩)⟩, ⟨zc BK188⟩, ⟨zc BK189⟩, ⟨zb⟩⟩
      ·rw [if_neg c47] at H
       have c47b0 : (t208 == 0) = false := beq_eq_false_iff_ne.mpr c47
       have c47b1 : (t208 != 0) = true := bne_iff_ne.mpr c47
       have H' := zh H
       clear H
       go_wp2
       go_meet
       case rel => exact ⟨_, (true), ze, H', ⟨zo1⟩, ⟨by (with_reducible repeat (first | apply Kd.V_alloc | apply Kd.V_drewN | apply Kd.V_drew)); exact Kd.V_mono HO192.out (fun _ hk => ⟨hk.1.2, ⟨hk.1.1.1, hk.1.1.2⟩⟩)⟩, ⟨zR HO200⟩, ⟨by (with_reducible repeat (first | apply Kd.V_alloc | apply Kd.V_drewN | apply Kd.V_drew)); exact Kd.V_mono HO222.out (fun _ hk => ⟨hk.1, ⟨hk.2.2.1, hk.2.2.2⟩⟩)⟩, ⟨by (with_reducible repeat (first | apply Kd.V_alloc | apply Kd.V_drewN | apply Kd.V_drew)); exact Kd.V_mono HO226.out (fun _ hk => ⟨hk.1, ⟨hk.2.2.1, hk.2.2.2⟩⟩)⟩, ⟨by (with_reducible repeat (first | apply Kd.V_alloc | apply Kd.V_drewN | apply Kd.V_drew)); exact Kd.V_mono HO229.out (fun _ hk => ⟨hk.1, ⟨hk.2.2.1, hk.2.2.2⟩⟩)⟩, ⟨zc BK188⟩, ⟨zc BK189⟩, ⟨zb⟩⟩
     ·rw [if_neg c46] at H
      have c46b0 : (t204 == 0) = false := beq_eq_false_iff_ne.mpr c46
      have c46b1 : (t204 != 0) = true := bne_iff_ne.mpr c46
      have H' := zh H
      clear H
      go_wp2
      go_meet
      case rel => exact ⟨_, (true), ze, H', ⟨zo1⟩, ⟨by (with_reducible repeat (first | apply Kd.V_alloc | apply Kd.V_drewN | apply Kd.V_drew)); exact Kd.V_mono HO192.out (fun _ hk => ⟨hk.1.2, ⟨hk.1.1.1, hk.1.1.2⟩⟩)⟩, ⟨zR HO200⟩, ⟨by (with_reducible repeat (first | apply Kd.V_alloc | apply Kd.V_drewN | apply Kd.V_drew)); exact Kd.V_mono HO222.out (fun _ hk => ⟨hk.1, ⟨hk.2.2.1, hk.2.2.2⟩⟩)⟩, ⟨by (with_reducible repeat (first | apply Kd.V_alloc | apply Kd.V_drewN | apply Kd.V_drew)); exact Kd.V_mono HO226.out (fun _ hk => ⟨hk.1, ⟨hk.2.2.1, hk.2.2.2⟩⟩)⟩, ⟨by (with_reducible repeat (first | apply Kd.V_alloc | apply Kd.V_drewN | apply Kd.V_drew)); exact Kd.V_mono HO229.out (fun _ hk => ⟨hk.1, ⟨hk.2.2.1, hk.2.2.2⟩⟩)⟩, ⟨zc BK188⟩, ⟨zc BK189⟩, ⟨zb⟩⟩
    ·rw [if_neg c45] at H
     have c45b0 : (t193 == 0) = false := beq_eq_false_iff_ne.mpr c45
     have c45b1 : (t193 != 0) = true := bne_iff_ne.mpr c45
     (first | rw [c45b0] | (simp only [i64_w, i32_w]; rw [c45b0]) | skip)
     have H' := zh H
     clear H
     go_wp2
     go_meet
     case rel => exact ⟨_, (true), ze, H', ⟨zo1⟩, ⟨by (with_reducible repeat (first | apply Kd.V_alloc | apply Kd.V_drewN | apply Kd.V_drew)); exact Kd.V_mono HO192.out (fun _ hk => ⟨hk.1.2, ⟨hk.1.1.1, hk.1.1.2⟩⟩)⟩, ⟨zR HO200⟩, ⟨by (with_reducible repeat (first | apply Kd.V_alloc | apply Kd.V_drewN | apply Kd.V_drew)); exact Kd.V_mono HO222.out (fun _ hk => ⟨hk.1, ⟨hk.2.2.1, hk.2.2.2⟩⟩)⟩, ⟨by (with_reducible repeat (first | apply Kd.V_alloc | apply Kd.V_drewN | apply Kd.V_drew)); exact Kd.V_mono HO226.out (fun _ hk => ⟨hk.1, ⟨hk.2.2.1, hk.2.2.2⟩⟩)⟩, ⟨by (with_reducible repeat (first | apply Kd.V_alloc | apply Kd.V_drewN | apply Kd.V_drew)); exact Kd.V_mono HO229.out (fun _ hk => ⟨hk.1, ⟨hk.2.2.1, hk.2.2.2⟩⟩)⟩, ⟨zc BK188⟩, ⟨zc BK189⟩, ⟨zb⟩⟩
  case rest =>
   as_aux_lemma =>
    clear HC16
    try clear c1
    try clear c2
    try clear p2
    try clear c3
    try clear c4
    try clear c6
    try clear c8
    try clear c16
    try clear c19
    try clear c26
    try clear c33
    try clear c36
    try clear c39
    try clear c40
    try clear c42
    try clear c44
    try clear c45
    try clear c45b0
    try clear c45b1
    try clear c46
    try clear c46b0
    try clear c46b1
    try clear c47
    try clear c47b0
    try clear c47b1
    try clear c48
    try clear c48b0
    try clear c48b1
    try clear hcz20_0
    try clear hcz20_1
    try clear hcz20_2
    try clear hcz20_3
    try clear hcz22_0
    try clear hcz22_1
    try clear hcz22_2
    try clear hcz22_3
    try clear hcz25_0
    try clear hcz25_1
    try clear hcz25_2
    try clear hcz25_3
    try clear hcz27_0
    try clear hcz27_1
    try clear hcz27_2
    try clear hcz27_3
    try clear hcz30_0
    try clear hcz30_1
    try clear hcz30_2
    try clear hcz30_3
    try clear hcz40_0
    try clear hcz40_1
    try clear hcz40_2
    try clear hcz40_3
    try clear hcz43_0
    try clear hcz43_1
    try clear hcz43_2
    try clear hcz43_3
    try clear hfz20_0
    try clear hfz20_1
    try clear hfz20_2
    try clear hfz20_3
    try clear hfz22_0
    try clear hfz22_1
    try clear hfz22_2
    try clear hfz22_3
    try clear hfz25_0
    try clear hfz25_1
    try clear hfz25_2
    try clear hfz25_3
    try clear hfz27_0
    try clear hfz27_1
    try clear hfz27_2
    try clear hfz27_3
    try clear hfz30_0
    try clear hfz30_1
    try clear hfz30_2
    try clear hfz30_3
    try clear hfz40_0
    try clear hfz40_1
    try clear hfz40_2
    try clear hfz40_3
    try clear hfz43_0
    try clear hfz43_1
    try clear hfz43_2
    try clear hfz43_3
    obtain ⟨kq, x115_15, rfl, HA, HJ15, HO_7, HO_11, HO_17, HO_19, HO_20, BK188, BK189, HB⟩ := hcut
    cases kq with
    | zero => exact absurd HA.out (by simp [saronlaw06_KernelBack.j0])
    | succ kj15 =>
     have H := HA.out
     clear HA
     simp only [saronlaw06_KernelBack.j0] at H
     by_cases c49 : x115_15 = true
     ·subst c49
      have H1 : (some false) = some r := by rw [if_pos rfl] at H; exact H
      clear H
      have H := H1
      clear H1
      obtain rfl := Option.some.inj H
      go_wp2
      go_ret
      exact ⟨zf, zb⟩
     ·replace c49 := Bool.eq_false_iff.mpr c49
      subst c49
      have H1 : (saronlaw06_KernelBack.l0 kj15 t190 t196 t197 t198 t220 t223 t224 t227 t230 false 0 a0_0 a0_1 a0_2 l0_3) = some r := by rw [if_neg (show ¬ (false = true) by decide)] at H; exact H
      clear H
      have H := H1
      clear H1
      have H' := zh H
      clear H
      go_wp2
      go_loopg [22, 23] kj15 (fun kq v22 v23 w' => ∃ (x22_2 : Bool) (x23_2 : Int), v22 = .bool x22_2 ∧ v23 = .int .i64 x23_2 ∧ Aside0 (saronlaw06_KernelBack.l0 kq t190 t196 t197 t198 t220 t223 t224 t227 t230 x22_2 x23_2 a0_0 a0_1 a0_2 l0_3 = some r) ∧ Aside0 (kq ≤ kj15) ∧ Aside0 (Kd.V k61 61 w' w.heap.size (fun k_ => some k_ ≠ ((.slice Ao28 t198.length co28) : Value).ownBlock ∧ k_ ≠ gb188 ∧ k_ ≠ gb189) v191 t190) ∧ Aside0 (Kd.R (Kd.int .i64) 3 w' w.heap.size (fun _ => True) (.slice Ao28 t198.length co28) t198) ∧ Aside0 (Kd.V (Kd.int .i64) 3 w' w.heap.size (fun k_ => some k_ ≠ ((.slice Ao28 t198.length co28) : Value).ownBlock ∧ k_ ≠ gb188 ∧ k_ ≠ gb189) v221 t220) ∧ Aside0 (Kd.V (Kd.int .i64) 3 w' w.heap.size (fun k_ => some k_ ≠ ((.slice Ao28 t198.length co28) : Value).ownBlock ∧ k_ ≠ gb188 ∧ k_ ≠ gb189) v225 t224) ∧ Aside0 (Kd.V (Kd.int .i64) 3 w' w.heap.size (fun k_ => some k_ ≠ ((.slice Ao28 t198.length co28) : Value).ownBlock ∧ k_ ≠ gb188 ∧ k_ ≠ gb189) v228 t227) ∧ Aside0 (w'.heap[gb188]? = some (.cells #[.int .i64 a0_0, .int .i64 a0_1, .int .i64 a0_2, (.slice A0_3 l0_3.length c0_3)] 24 (0, 0))) ∧ Aside0 (w'.heap[gb189]? = some (.cells #[.int .i64 a1_0, .int .i64 a1_1] 61 (0, 0))) ∧ Aside0 (Below w.heap.size w w'))
      case atStart => exact ⟨(false), (0), ze, ze, H', ⟨Nat.le_refl _⟩, ⟨zV HO_7⟩, ⟨zR HO_11⟩, ⟨zV HO_17⟩, ⟨zV HO_19⟩, ⟨zV HO_20⟩, ⟨zc BK188⟩, ⟨zc BK189⟩, ⟨zb⟩⟩
      case round =>
       as_aux_lemma =>
        clear H'
        try clear c1
        try clear c2
        try clear p2
        try clear c3
        try clear c4
        try clear c6
        try clear c8
        try clear c16
        try clear c19
        try clear c26
        try clear c33
        try clear c36
        try clear c39
        try clear c40
        try clear c42
        try clear c44
        try clear c45
        try clear c45b0
        try clear c45b1
        try clear c46
        try clear c46b0
        try clear c46b1
        try clear c47
        try clear c47b0
        try clear c47b1
        try clear c48
        try clear c48b0
        try clear c48b1
        try clear c49
        try clear hcz20_0
        try clear hcz20_1
        try clear hcz20_2
        try clear hcz20_3
        try clear hcz22_0
        try clear hcz22_1
        try clear hcz22_2
        try clear hcz22_3
        try clear hcz25_0
        try clear hcz25_1
        try clear hcz25_2
        try clear hcz25_3
        try clear hcz27_0
        try clear hcz27_1
        try clear hcz27_2
        try clear hcz27_3
        try clear hcz30_0
        try clear hcz30_1
        try clear hcz30_2
        try clear hcz30_3
        try clear hcz40_0
        try clear hcz40_1
        try clear hcz40_2
        try clear hcz40_3
        try clear hcz43_0
        try clear hcz43_1
        try clear hcz43_2
        try clear hcz43_3
        try clear hfz20_0
        try clear hfz20_1
        try clear hfz20_2
        try clear hfz20_3
        try clear hfz22_0
        try clear hfz22_1
        try clear hfz22_2
        try clear hfz22_3
        try clear hfz25_0
        try clear hfz25_1
        try clear hfz25_2
        try clear hfz25_3
        try clear hfz27_0
        try clear hfz27_1
        try clear hfz27_2
        try clear hfz27_3
        try clear hfz30_0
        try clear hfz30_1
        try clear hfz30_2
        try clear hfz30_3
        try clear hfz40_0
        try clear hfz40_1
        try clear hfz40_2
        try clear hfz40_3
        try clear hfz43_0
        try clear hfz43_1
        try clear hfz43_2
        try clear hfz43_3
        try clear p2
        obtain ⟨x22_2, x23_2, rfl, rfl, HA, HK2, HO_7, HO_11, HO_17, HO_19, HO_20, BK188, BK189, HB⟩ := hrel
        cases gk with
        | zero => exact absurd HA.out (by simp [saronlaw06_KernelBack.l0])
        | succ k2 =>
         have H := HA.out
         clear HA
         simp only [saronlaw06_KernelBack.l0] at H
         by_cases c50 : x23_2 < (t190.length : Int)
         ·rw [if_pos c50] at H
          have c50b0 : decide (x23_2 < (t190.length : Int)) = true := decide_eq_true c50
          clear c50
          by_cases c51 : 0 ≤ x23_2
          ·rw [if_pos c51] at H
           have c51b0 : decide (0 ≤ x23_2) = true := decide_eq_true c51
           clear c51
           replace H := Option.bind_eq_some_iff.mp H
           obtain ⟨t232, A520, H⟩ := H
           replace H : (if t232 = true then (if ((rd_T61 t190 x23_2).f1) ≤ ((rd_T61 t190 x23_2).f0) then (some false) else (if ((rd_T61 t190 x23_2).f1) ≥ (l0_3.length : Int) then (some false) else (if x22_2 = true then (saronlaw06_KernelBack.l0 k2 t190 t196 t197 t198 t220 t223 t224 t227 t230 true (wrap64 (x23_2 + 1)) a0_0 a0_1 a0_2 l0_3) else (if ((rd_T61 t190 x23_2).f0) = (mn t196 t197) then (saronlaw06_KernelBack.l0 k2 t190 t196 t197 t198 t220 t223 t224 t227 t230 (((rd_T61 t190 x23_2).f1) == (mx t196 t197)) (wrap64 (x23_2 + 1)) a0_0 a0_1 a0_2 l0_3) else (saronlaw06_KernelBack.l0 k2 t190 t196 t197 t198 t220 t223 t224 t227 t230 false (wrap64 (x23_2 + 1)) a0_0 a0_1 a0_2 l0_3))))) else (some false)) = some r := H
           have A52 := zh A520
           clear A520
           by_cases c53 : t232 = true
           ·subst c53
            have H1 : (if ((rd_T61 t190 x23_2).f1) ≤ ((rd_T61 t190 x23_2).f0) then (some false) else (if ((rd_T61 t190 x23_2).f1) ≥ (l0_3.length : Int) then (some false) else (if x22_2 = true then (saronlaw06_KernelBack.l0 k2 t190 t196 t197 t198 t220 t223 t224 t227 t230 true (wrap64 (x23_2 + 1)) a0_0 a0_1 a0_2 l0_3) else (if ((rd_T61 t190 x23_2).f0) = (mn t196 t197) then (saronlaw06_KernelBack.l0 k2 t190 t196 t197 t198 t220 t223 t224 t227 t230 (((rd_T61 t190 x23_2).f1) == (mx t196 t197)) (wrap64 (x23_2 + 1)) a0_0 a0_1 a0_2 l0_3) else (saronlaw06_KernelBack.l0 k2 t190 t196 t197 t198 t220 t223 t224 t227 t230 false (wrap64 (x23_2 + 1)) a0_0 a0_1 a0_2 l0_3))))) = some r := by rw [if_pos rfl] at H; exact H
            clear H
            have H := H1
            clear H1
            by_cases c54 : ((rd_T61 t190 x23_2).f1) ≤ ((rd_T61 t190 x23_2).f0)
            ·rw [if_pos c54] at H
             have c54b0 : decide (((rd_T61 t190 x23_2).f1) ≤ ((rd_T61 t190 x23_2).f0)) = true := decide_eq_true c54
             clear c54
             obtain rfl := Option.some.inj H
             obtain ⟨Ao55, co55, eo55⟩ := Kd.V_slice HO_7.out
             subst eo55
             try go_wp2
             replace HO_7 := zh (Kd.V_drew HO_7.out)
             replace HO_11 := zh (Kd.R_drew HO_11.out)
             replace HO_17 := zh (Kd.V_drew HO_17.out)
             replace HO_19 := zh (Kd.V_drew HO_19.out)
             replace HO_20 := zh (Kd.V_drew HO_20.out)
             replace BK188 := zh (blk_drew BK188.out)
             replace BK189 := zh (blk_drew BK189.out)
             replace HB := zh (below_drew1 HB.out)
             have p231 : 0 ≤ (x23_2 : Int) := of_decide_eq_true zs
             have q231 : x23_2 < (t190.length : Int) := of_decide_eq_true zs
             obtain ⟨ad231, e231, hx231_0, hx231_1⟩ := at_T61 (Kd.V_reads' HO_7.out).2.2 x23_2 p231 q231
             cases e231
             replace p231 := eq_true p231
             replace q231 := eq_true q231
             have p233 : 0 ≤ (x23_2 : Int) := of_decide_eq_true zs
             have q233 : x23_2 < (t190.length : Int) := of_decide_eq_true zs
             obtain ⟨ad233, e233, hx233_0, hx233_1⟩ := at_T61 (Kd.V_reads' HO_7.out).2.2 x23_2 p233 q233
             obtain rfl : ad231 = ad233 := (by injection e233)
             replace p233 := eq_true p233
             replace q233 := eq_true q233
             have p234 : 0 ≤ (x23_2 : Int) := of_decide_eq_true zs
             have q234 : x23_2 < (t190.length : Int) := of_decide_eq_true zs
             obtain ⟨ad234, e234, hx234_0, hx234_1⟩ := at_T61 (Kd.V_reads' HO_7.out).2.2 x23_2 p234 q234
             obtain rfl : ad231 = ad234 := (by injection e234)
             replace p234 := eq_true p234
             replace q234 := eq_true q234
             refine start_ (n := 35) (S := fun w' => w'.cell? ⟨gb188, 0, none⟩ = some (.int .i64 a0_0) ∧ w'.cell? ⟨gb188, 1, none⟩ = some (.int .i64 a0_1) ∧ w'.cell? ⟨gb188, 2, none⟩ = some (.int .i64 a0_2) ∧ w'.cell? ⟨gb188, 3, none⟩ = some (.slice A0_3 l0_3.length c0_3) ∧ w'.cell? (ad231.add ((x23_2).toNat * 2)) = some (.int .i64 ((rd_T61 t190 x23_2).f0)) ∧ w'.cell? ⟨(ad231.add ((x23_2).toNat * 2)).block, (ad231.add ((x23_2).toNat * 2)).off + 1, none⟩ = some (.int .i64 ((rd_T61 t190 x23_2).f1)) ∧ w'.cell? (ad231.add ((x23_2).toNat * 2)) = some (.int .i64 ((rd_T61 t190 x23_2).f0)) ∧ w'.cell? ⟨(ad231.add ((x23_2).toNat * 2)).block, (ad231.add ((x23_2).toNat * 2)).off + 1, none⟩ = some (.int .i64 ((rd_T61 t190 x23_2).f1)) ∧ w'.cell? (ad231.add ((x23_2).toNat * 2)) = some (.int .i64 ((rd_T61 t190 x23_2).f0)) ∧ w'.cell? ⟨(ad231.add ((x23_2).toNat * 2)).block, (ad231.add ((x23_2).toNat * 2)).off + 1, none⟩ = some (.int .i64 ((rd_T61 t190 x23_2).f1))) (ds := []) (Array.replicate 35 false) zk rfl rfl ⟨vb BK188 0, vb BK188 1, vb BK188 2, vb BK188 3, hx231_0, hx231_1, hx233_0, hx233_1, hx234_0, hx234_1⟩ (fun hHeld => ?_); refine with_tabW saronlaw06_KernelBack.tab17 saronlaw06_KernelBack.bits17 (fun HT_ HW_ => ?_)
             generalize wr.drew = w56 at HO_7 HO_11 HO_17 HO_19 HO_20 BK188 BK189 HB hx231_0 hx231_1 hx233_0 hx233_1 hx234_0 hx234_1 hHeld ⊢
             refine zu 0 ?_
             refine zu 1 ?_
             refine zu 2 ?_
             refine zu 3 ?_
             refine zu 5 ?_
             refine zt 4 ?_
             refine zt 6 ?_
             refine zu 7 ?_
             refine zu 8 ?_
             refine zo 9 (fun K hK => ?_)
             refine goes_ Tryd.func45 zk rfl #[.int .i64 ((rd_T61 t190 x23_2).f0), .int .i64 0, .int .i64 (wrap64 ((l0_3.length : Int) - 1))] (by rfl) rfl rfl zm ?_
             with_reducible refine (saronref00_Sits.calls ((rd_T61 t190 x23_2).f0) 0 (wrap64 ((l0_3.length : Int) - 1)) true _ A52.out).mono ?_
             rintro e w' ⟨rfl, ⟨nd, rfl⟩⟩
             refine ⟨_, rfl, ?_⟩
             refine hK.out _ _ ⟨vb BK188 0, vb BK188 1, vb BK188 2, vb BK188 3, hHeld.2.2.2.2.1, hHeld.2.2.2.2.2.1, hHeld.2.2.2.2.2.2.1, hHeld.2.2.2.2.2.2.2.1, hHeld.2.2.2.2.2.2.2.2.1, hHeld.2.2.2.2.2.2.2.2.2⟩ (fun hHeld => ?_)
             clear hK K
             refine zr 131 _ ?_
             refine zu 10 ?_
             refine zu 11 ?_
             refine zu 12 ?_
             refine zu 13 ?_
             refine zu 14 ?_
             refine zu 15 ?_
             refine zu 17 ?_
             refine zu 18 ?_
             refine zu 19 ?_
             refine zu 20 ?_
             refine zt 16 ?_
             refine zt 21 ?_
             refine zu 22 ?_
             refine zu 23 ?_
             refine zu 24 ?_
             refine zn 25 ?_
             refine zn 26 ?_
             refine zn 27 ?_
             refine zn 28 ?_
             refine zn 29 ?_
             refine zn 30 ?_
             refine zn 31 ?_
             refine zn 32 ?_
             refine zn 33 ?_
             refine zu 34 ?_
             refine zd ?_
             try go_wp2
             go_ret
             exact ⟨zf, zb⟩
            ·rw [if_neg c54] at H
             have c54b0 : decide (((rd_T61 t190 x23_2).f1) ≤ ((rd_T61 t190 x23_2).f0)) = false := decide_eq_false c54
             clear c54
             by_cases c57 : ((rd_T61 t190 x23_2).f1) ≥ (l0_3.length : Int)
             ·rw [if_pos c57] at H
              have c57b0 : decide ((l0_3.length : Int) ≤ ((rd_T61 t190 x23_2).f1)) = true := decide_eq_true c57
              clear c57
              obtain rfl := Option.some.inj H
              obtain ⟨Ao58, co58, eo58⟩ := Kd.V_slice HO_7.out
              subst eo58
              try go_wp2
              replace HO_7 := zh (Kd.V_drew HO_7.out)
              replace HO_11 := zh (Kd.R_drew HO_11.out)
              replace HO_17 := zh (Kd.V_drew HO_17.out)
              replace HO_19 := zh (Kd.V_drew HO_19.out)
              replace HO_20 := zh (Kd.V_drew HO_20.out)
              replace BK188 := zh (blk_drew BK188.out)
              replace BK189 := zh (blk_drew BK189.out)
              replace HB := zh (below_drew1 HB.out)
              have p231 : 0 ≤ (x23_2 : Int) := of_decide_eq_true zs
              have q231 : x23_2 < (t190.length : Int) := of_decide_eq_true zs
              obtain ⟨ad231, e231, hx231_0, hx231_1⟩ := at_T61 (Kd.V_reads' HO_7.out).2.2 x23_2 p231 q231
              cases e231
              replace p231 := eq_true p231
              replace q231 := eq_true q231
              have p233 : 0 ≤ (x23_2 : Int) := of_decide_eq_true zs
              have q233 : x23_2 < (t190.length : Int) := of_decide_eq_true zs
              obtain ⟨ad233, e233, hx233_0, hx233_1⟩ := at_T61 (Kd.V_reads' HO_7.out).2.2 x23_2 p233 q233
              obtain rfl : ad231 = ad233 := (by injection e233)
              replace p233 := eq_true p233
              replace q233 := eq_true q233
              have p234 : 0 ≤ (x23_2 : Int) := of_decide_eq_true zs
              have q234 : x23_2 < (t190.length : Int) := of_decide_eq_true zs
              obtain ⟨ad234, e234, hx234_0, hx234_1⟩ := at_T61 (Kd.V_reads' HO_7.out).2.2 x23_2 p234 q234
              obtain rfl : ad231 = ad234 := (by injection e234)
              replace p234 := eq_true p234
              replace q234 := eq_true q234
              have p235 : 0 ≤ (x23_2 : Int) := of_decide_eq_true zs
              have q235 : x23_2 < (t190.length : Int) := of_decide_eq_true zs
              obtain ⟨ad235, e235, hx235_0, hx235_1⟩ := at_T61 (Kd.V_reads' HO_7.out).2.2 x23_2 p235 q235
              obtain rfl : ad231 = ad235 := (by injection e235)
              replace p235 := eq_true p235
              replace q235 := eq_true q235
              refine start_ (n := 35) (S := fun w' => w'.cell? ⟨gb188, 0, none⟩ = some (.int .i64 a0_0) ∧ w'.cell? ⟨gb188, 1, none⟩ = some (.int .i64 a0_1) ∧ w'.cell? ⟨gb188, 2, none⟩ = some (.int .i64 a0_2) ∧ w'.cell? ⟨gb188, 3, none⟩ = some (.slice A0_3 l0_3.length c0_3) ∧ w'.cell? (ad231.add ((x23_2).toNat * 2)) = some (.int .i64 ((rd_T61 t190 x23_2).f0)) ∧ w'.cell? ⟨(ad231.add ((x23_2).toNat * 2)).block, (ad231.add ((x23_2).toNat * 2)).off + 1, none⟩ = some (.int .i64 ((rd_T61 t190 x23_2).f1)) ∧ w'.cell? (ad231.add ((x23_2).toNat * 2)) = some (.int .i64 ((rd_T61 t190 x23_2).f0)) ∧ w'.cell? ⟨(ad231.add ((x23_2).toNat * 2)).block, (ad231.add ((x23_2).toNat * 2)).off + 1, none⟩ = some (.int .i64 ((rd_T61 t190 x23_2).f1)) ∧ w'.cell? (ad231.add ((x23_2).toNat * 2)) = some (.int .i64 ((rd_T61 t190 x23_2).f0)) ∧ w'.cell? ⟨(ad231.add ((x23_2).toNat * 2)).block, (ad231.add ((x23_2).toNat * 2)).off + 1, none⟩ = some (.int .i64 ((rd_T61 t190 x23_2).f1)) ∧ w'.cell? (ad231.add ((x23_2).toNat * 2)) = some (.int .i64 ((rd_T61 t190 x23_2).f0)) ∧ w'.cell? ⟨(ad231.add ((x23_2).toNat * 2)).block, (ad231.add ((x23_2).toNat * 2)).off + 1, none⟩ = some (.int .i64 ((rd_T61 t190 x23_2).f1))) (ds := []) (Array.replicate 35 false) zk rfl rfl ⟨vb BK188 0, vb BK188 1, vb BK188 2, vb BK188 3, hx231_0, hx231_1, hx233_0, hx233_1, hx234_0, hx234_1, hx235_0, hx235_1⟩ (fun hHeld => ?_); refine with_tabW saronlaw06_KernelBack.tab17 saronlaw06_KernelBack.bits17 (fun HT_ HW_ => ?_)
              generalize wr.drew = w59 at HO_7 HO_11 HO_17 HO_19 HO_20 BK188 BK189 HB hx231_0 hx231_1 hx233_0 hx233_1 hx234_0 hx234_1 hx235_0 hx235_1 hHeld ⊢
              refine zu 0 ?_
              refine zu 1 ?_
              refine zu 2 ?_
              refine zu 3 ?_
              refine zu 5 ?_
              refine zt 4 ?_
              refine zt 6 ?_
              refine zu 7 ?_
              refine zu 8 ?_
              refine zo 9 (fun K hK => ?_)
              refine goes_ Tryd.func45 zk rfl #[.int .i64 ((rd_T61 t190 x23_2).f0), .int .i64 0, .int .i64 (wrap64 ((l0_3.length : Int) - 1))] (by rfl) rfl rfl zm ?_
              with_reducible refine (saronref00_Sits.calls ((rd_T61 t190 x23_2).f0) 0 (wrap64 ((l0_3.length : Int) - 1)) true _ A52.out).mono ?_
              rintro e w' ⟨rfl, ⟨nd, rfl⟩⟩
              refine ⟨_, rfl, ?_⟩
              refine hK.out _ _ ⟨vb BK188 0, vb BK188 1, vb BK188 2, vb BK188 3, hHeld.2.2.2.2.1, hHeld.2.2.2.2.2.1, hHeld.2.2.2.2.2.2.1, hHeld.2.2.2.2.2.2.2.1, hHeld.2.2.2.2.2.2.2.2.1, hHeld.2.2.2.2.2.2.2.2.2.1, hHeld.2.2.2.2.2.2.2.2.2.2.1, hHeld.2.2.2.2.2.2.2.2.2.2.2⟩ (fun hHeld => ?_)
              clear hK K
              refine zr 131 _ ?_
              refine zu 10 ?_
              refine zu 11 ?_
              refine zu 12 ?_
              refine zu 13 ?_
              refine zu 14 ?_
              refine zu 15 ?_
              refine zu 17 ?_
              refine zu 18 ?_
              refine zu 19 ?_
              refine zu 20 ?_
              refine zt 16 ?_
              refine zt 21 ?_
              refine zu 22 ?_
              refine zu 23 ?_
              refine zu 24 ?_
              refine zu 25 ?_
              refine zu 26 ?_
              refine zu 27 ?_
              refine zu 28 ?_
              refine zu 30 ?_
              refine zt 29 ?_
              refine zt 31 ?_
              refine zu 32 ?_
              refine zu 33 ?_
              refine zu 34 ?_
              refine zd ?_
              try go_wp2
              go_ret
              exact ⟨zf, zb⟩
             ·rw [if_neg c57] at H
              have c57b0 : decide ((l0_3.length : Int) ≤ ((rd_T61 t190 x23_2).f1)) = false := decide_eq_false c57
              clear c57
              by_cases c60 : x22_2 = true
              ·subst c60
               have H1 : (saronlaw06_KernelBack.l0 k2 t190 t196 t197 t198 t220 t223 t224 t227 t230 true (wrap64 (x23_2 + 1)) a0_0 a0_1 a0_2 l0_3) = some r := by rw [if_pos rfl] at H; exact H
               clear H
               have H := H1
               clear H1
               have H' := zh H
               clear H
               obtain ⟨Ao61, co61, eo61⟩ := Kd.V_slice HO_7.out
               subst eo61
               try go_wp2
               replace HO_7 := zh (Kd.V_drew HO_7.out)
               replace HO_11 := zh (Kd.R_drew HO_11.out)
               replace HO_17 := zh (Kd.V_drew HO_17.out)
               replace HO_19 := zh (Kd.V_drew HO_19.out)
               replace HO_20 := zh (Kd.V_drew HO_20.out)
               replace BK188 := zh (blk_drew BK188.out)
               replace BK189 := zh (blk_drew BK189.out)
               replace HB := zh (below_drew1 HB.out)
               have p231 : 0 ≤ (x23_2 : Int) := of_decide_eq_true zs
               have q231 : x23_2 < (t190.length : Int) := of_decide_eq_true zs
               obtain ⟨ad231, e231, hx231_0, hx231_1⟩ := at_T61 (Kd.V_reads' HO_7.out).2.2 x23_2 p231 q231
               cases e231
               replace p231 := eq_true p231
               replace q231 := eq_true q231
               have p233 : 0 ≤ (x23_2 : Int) := of_decide_eq_true zs
               have q233 : x23_2 < (t190.length : Int) := of_decide_eq_true zs
               obtain ⟨ad233, e233, hx233_0, hx233_1⟩ := at_T61 (Kd.V_reads' HO_7.out).2.2 x23_2 p233 q233
               obtain rfl : ad231 = ad233 := (by injection e233)
               replace p233 := eq_true p233
               replace q233 := eq_true q233
               have p234 : 0 ≤ (x23_2 : Int) := of_decide_eq_true zs
               have q234 : x23_2 < (t190.length : Int) := of_decide_eq_true zs
               obtain ⟨ad234, e234, hx234_0, hx234_1⟩ := at_T61 (Kd.V_reads' HO_7.out).2.2 x23_2 p234 q234
               obtain rfl : ad231 = ad234 := (by injection e234)
               replace p234 := eq_true p234
               replace q234 := eq_true q234
               have p235 : 0 ≤ (x23_2 : Int) := of_decide_eq_true zs
               have q235 : x23_2 < (t190.length : Int) := of_decide_eq_true zs
               obtain ⟨ad235, e235, hx235_0, hx235_1⟩ := at_T61 (Kd.V_reads' HO_7.out).2.2 x23_2 p235 q235
               obtain rfl : ad231 = ad235 := (by injection e235)
               replace p235 := eq_true p235
               replace q235 := eq_true q235
               refine start_ (n := 35) (S := fun w' => w'.cell? ⟨gb188, 0, none⟩ = some (.int .i64 a0_0) ∧ w'.cell? ⟨gb188, 1, none⟩ = some (.int .i64 a0_1) ∧ w'.cell? ⟨gb188, 2, none⟩ = some (.int .i64 a0_2) ∧ w'.cell? ⟨gb188, 3, none⟩ = some (.slice A0_3 l0_3.length c0_3) ∧ w'.cell? (ad231.add ((x23_2).toNat * 2)) = some (.int .i64 ((rd_T61 t190 x23_2).f0)) ∧ w'.cell? ⟨(ad231.add ((x23_2).toNat * 2)).block, (ad231.add ((x23_2).toNat * 2)).off + 1, none⟩ = some (.int .i64 ((rd_T61 t190 x23_2).f1)) ∧ w'.cell? (ad231.add ((x23_2).toNat * 2)) = some (.int .i64 ((rd_T61 t190 x23_2).f0)) ∧ w'.cell? ⟨(ad231.add ((x23_2).toNat * 2)).block, (ad231.add ((x23_2).toNat * 2)).off + 1, none⟩ = some (.int .i64 ((rd_T61 t190 x23_2).f1)) ∧ w'.cell? (ad231.add ((x23_2).toNat * 2)) = some (.int .i64 ((rd_T61 t190 x23_2).f0)) ∧ w'.cell? ⟨(ad231.add ((x23_2).toNat * 2)).block, (ad231.add ((x23_2).toNat * 2)).off + 1, none⟩ = some (.int .i64 ((rd_T61 t190 x23_2).f1)) ∧ w'.cell? (ad231.add ((x23_2).toNat * 2)) = some (.int .i64 ((rd_T61 t190 x23_2).f0)) ∧ w'.cell? ⟨(ad231.add ((x23_2).toNat * 2)).block, (ad231.add ((x23_2).toNat * 2)).off + 1, none⟩ = some (.int .i64 ((rd_T61 t190 x23_2).f1))) (ds := []) (Array.replicate 35 false) zk rfl rfl ⟨vb BK188 0, vb BK188 1, vb BK188 2, vb BK188 3, hx231_0, hx231_1, hx233_0, hx233_1, hx234_0, hx234_1, hx235_0, hx235_1⟩ (fun hHeld => ?_); refine with_tabW saronlaw06_KernelBack.tab17 saronlaw06_KernelBack.bits17 (fun HT_ HW_ => ?_)
               generalize wr.drew = w62 at HO_7 HO_11 HO_17 HO_19 HO_20 BK188 BK189 HB hx231_0 hx231_1 hx233_0 hx233_1 hx234_0 hx234_1 hx235_0 hx235_1 hHeld ⊢
               refine zu 0 ?_
               refine zu 1 ?_
               refine zu 2 ?_
               refine zu 3 ?_
               refine zu 5 ?_
               refine zt 4 ?_
               refine zt 6 ?_
               refine zu 7 ?_
               refine zu 8 ?_
               refine zo 9 (fun K hK => ?_)
               refine goes_ Tryd.func45 zk rfl #[.int .i64 ((rd_T61 t190 x23_2).f0), .int .i64 0, .int .i64 (wrap64 ((l0_3.length : Int) - 1))] (by rfl) rfl rfl zm ?_
               with_reducible refine (saronref00_Sits.calls ((rd_T61 t190 x23_2).f0) 0 (wrap64 ((l0_3.length : Int) - 1)) true _ A52.out).mono ?_
               rintro e w' ⟨rfl, ⟨nd, rfl⟩⟩
               refine ⟨_, rfl, ?_⟩
               refine hK.out _ _ ⟨vb BK188 0, vb BK188 1, vb BK188 2, vb BK188 3, hHeld.2.2.2.2.1, hHeld.2.2.2.2.2.1, hHeld.2.2.2.2.2.2.1, hHeld.2.2.2.2.2.2.2.1, hHeld.2.2.2.2.2.2.2.2.1, hHeld.2.2.2.2.2.2.2.2.2.1, hHeld.2.2.2.2.2.2.2.2.2.2.1, hHeld.2.2.2.2.2.2.2.2.2.2.2⟩ (fun hHeld => ?_)
               clear hK K
               refine zr 131 _ ?_
               refine zu 10 ?_
               refine zu 11 ?_
               refine zu 12 ?_
               refine zu 13 ?_
               refine zu 14 ?_
               refine zu 15 ?_
               refine zu 17 ?_
               refine zu 18 ?_
               refine zu 19 ?_
               refine zu 20 ?_
               refine zt 16 ?_
               refine zt 21 ?_
               refine zu 22 ?_
               refine zu 23 ?_
               refine zu 24 ?_
               refine zu 25 ?_
               refine zu 26 ?_
               refine zu 27 ?_
               refine zu 28 ?_
               refine zu 30 ?_
               refine zt 29 ?_
               refine zt 31 ?_
               refine zu 32 ?_
               refine zu 33 ?_
               refine zu 34 ?_
               refine zd ?_
               try go_wp2
               go_roundg k2
               case measure => have := HJ15.out; have := HK2.out; omega
               case rel => exact ⟨(true), (wrap64 (x23_2 + 1)), ze, ze, H', ⟨zw HJ15 HK2⟩, ⟨zV HO_7⟩, ⟨zR HO_11⟩, ⟨zV HO_17⟩, ⟨zV HO_19⟩, ⟨zV HO_20⟩, ⟨zc BK188⟩, ⟨zc BK189⟩, ⟨zb⟩⟩
              ·replace c60 := Bool.eq_false_iff.mpr c60
               subst c60
               have H1 : (if ((rd_T61 t190 x23_2).f0) = (mn t196 t197) then (saronlaw06_KernelBack.l0 k2 t190 t196 t197 t198 t220 t223 t224 t227 t230 (((rd_T61 t190 x23_2).f1) == (mx t196 t197)) (wrap64 (x23_2 + 1)) a0_0 a0_1 a0_2 l0_3) else (saronlaw06_KernelBack.l0 k2 t190 t196 t197 t198 t220 t223 t224 t227 t230 false (wrap64 (x23_2 + 1)) a0_0 a0_1 a0_2 l0_3)) = some r := by rw [if_neg (show ¬ (false = true) by decide)] at H; exact H
               clear H
               have H := H1
               clear H1
               obtain ⟨ji63, hji63⟩ : ∃ j_ : Int, (mn t196 t197) = j_ := ⟨_, rfl⟩
               replace H : (if ((rd_T61 t190 x23_2).f0) = (ji63) then (saronlaw06_KernelBack.l0 k2 t190 t196 t197 t198 t220 t223 t224 t227 t230 (((rd_T61 t190 x23_2).f1) == (mx t196 t197)) (wrap64 (x23_2 + 1)) a0_0 a0_1 a0_2 l0_3) else (saronlaw06_KernelBack.l0 k2 t190 t196 t197 t198 t220 t223 t224 t227 t230 false (wrap64 (x23_2 + 1)) a0_0 a0_1 a0_2 l0_3)) = some r := by first | (rw [hji63] at H; exact H) | (simp only [hji63] at H ⊢; exact H)
               (try rw [hji63] at A52)
               have hji63_ : (if t197 < t196 then t197 else t196) = ji63 := hji63
               by_cases c64 : ((rd_T61 t190 x23_2).f0) = (ji63)
               ·rw [if_pos c64] at H
                have c64b0 : (((rd_T61 t190 x23_2).f0) == (ji63)) = true := beq_iff_eq.mpr c64
                have c64b1 : (((rd_T61 t190 x23_2).f0) != (ji63)) = false := bne_eq_false_iff_eq.mpr c64
                clear c64
                obtain ⟨ji65, hji65⟩ : ∃ j_ : Int, (mx t196 t197) = j_ := ⟨_, rfl⟩
                replace H : (saronlaw06_KernelBack.l0 k2 t190 t196 t197 t198 t220 t223 t224 t227 t230 (((rd_T61 t190 x23_2).f1) == (ji65)) (wrap64 (x23_2 + 1)) a0_0 a0_1 a0_2 l0_3) = some r := by first | (rw [hji65] at H; exact H) | (simp only [hji65] at H ⊢; exact H)
                (try rw [hji65] at A52)
                have hji65_ : (if t196 < t197 then t197 else t196) = ji65 := hji65
                have H' := zh H
                clear H
                obtain ⟨Ao66, co66, eo66⟩ := Kd.V_slice HO_7.out
                subst eo66
                try go_wp2
                replace HO_7 := zh (Kd.V_drew HO_7.out)
                replace HO_11 := zh (Kd.R_drew HO_11.out)
                replace HO_17 := zh (Kd.V_drew HO_17.out)
                replace HO_19 := zh (Kd.V_drew HO_19.out)
                replace HO_20 := zh (Kd.V_drew HO_20.out)
                replace BK188 := zh (blk_drew BK188.out)
                replace BK189 := zh (blk_drew BK189.out)
                replace HB := zh (below_drew1 HB.out)
                have p231 : 0 ≤ (x23_2 : Int) := of_decide_eq_true zs
                have q231 : x23_2 < (t190.length : Int) := of_decide_eq_true zs
                obtain ⟨ad231, e231, hx231_0, hx231_1⟩ := at_T61 (Kd.V_reads' HO_7.out).2.2 x23_2 p231 q231
                cases e231
                replace p231 := eq_true p231
                replace q231 := eq_true q231
                have p233 : 0 ≤ (x23_2 : Int) := of_decide_eq_true zs
                have q233 : x23_2 < (t190.length : Int) := of_decide_eq_true zs
                obtain ⟨ad233, e233, hx233_0, hx233_1⟩ := at_T61 (Kd.V_reads' HO_7.out).2.2 x23_2 p233 q233
                obtain rfl : ad231 = ad233 := (by injection e233)
                replace p233 := eq_true p233
                replace q233 := eq_true q233
                have p234 : 0 ≤ (x23_2 : Int) := of_decide_eq_true zs
                have q234 : x23_2 < (t190.length : Int) := of_decide_eq_true zs
                obtain ⟨ad234, e234, hx234_0, hx234_1⟩ := at_T61 (Kd.V_reads' HO_7.out).2.2 x23_2 p234 q234
                obtain rfl : ad231 = ad234 := (by injection e234)
                replace p234 := eq_true p234
                replace q234 := eq_true q234
                have p235 : 0 ≤ (x23_2 : Int) := of_decide_eq_true zs
                have q235 : x23_2 < (t190.length : Int) := of_decide_eq_true zs
                obtain ⟨ad235, e235, hx235_0, hx235_1⟩ := at_T61 (Kd.V_reads' HO_7.out).2.2 x23_2 p235 q235
                obtain rfl : ad231 = ad235 := (by injection e235)
                replace p235 := eq_true p235
                replace q235 := eq_true q235
                refine start_ (n := 35) (S := fun w' => w'.cell? ⟨gb188, 0, none⟩ = some (.int .i64 a0_0) ∧ w'.cell? ⟨gb188, 1, none⟩ = some (.int .i64 a0_1) ∧ w'.cell? ⟨gb188, 2, none⟩ = some (.int .i64 a0_2) ∧ w'.cell? ⟨gb188, 3, none⟩ = some (.slice A0_3 l0_3.length c0_3) ∧ w'.cell? (ad231.add ((x23_2).toNat * 2)) = some (.int .i64 ((rd_T61 t190 x23_2).f0)) ∧ w'.cell? ⟨(ad231.add ((x23_2).toNat * 2)).block, (ad231.add ((x23_2).toNat * 2)).off + 1, none⟩ = some (.int .i64 ((rd_T61 t190 x23_2).f1)) ∧ w'.cell? (ad231.add ((x23_2).toNat * 2)) = some (.int .i64 ((rd_T61 t190 x23_2).f0)) ∧ w'.cell? ⟨(ad231.add ((x23_2).toNat * 2)).block, (ad231.add ((x23_2).toNat * 2)).off + 1, none⟩ = some (.int .i64 ((rd_T61 t190 x23_2).f1)) ∧ w'.cell? (ad231.add ((x23_2).toNat * 2)) = some (.int .i64 ((rd_T61 t190 x23_2).f0)) ∧ w'.cell? ⟨(ad231.add ((x23_2).toNat * 2)).block, (ad231.add ((x23_2).toNat * 2)).off + 1, none⟩ = some (.int .i64 ((rd_T61 t190 x23_2).f1)) ∧ w'.cell? (ad231.add ((x23_2).toNat * 2)) = some (.int .i64 ((rd_T61 t190 x23_2).f0)) ∧ w'.cell? ⟨(ad231.add ((x23_2).toNat * 2)).block, (ad231.add ((x23_2).toNat * 2)).off + 1, none⟩ = some (.int .i64 ((rd_T61 t190 x23_2).f1))) (ds := []) (Array.replicate 35 false) zk rfl rfl ⟨vb BK188 0, vb BK188 1, vb BK188 2, vb BK188 3, hx231_0, hx231_1, hx233_0, hx233_1, hx234_0, hx234_1, hx235_0, hx235_1⟩ (fun hHeld => ?_); refine with_tabW saronlaw06_KernelBack.tab17 saronlaw06_KernelBack.bits17 (fun HT_ HW_ => ?_)
                generalize wr.drew = w67 at HO_7 HO_11 HO_17 HO_19 HO_20 BK188 BK189 HB hx231_0 hx231_1 hx233_0 hx233_1 hx234_0 hx234_1 hx235_0 hx235_1 hHeld ⊢
                refine zu 0 ?_
                refine zu 1 ?_
                refine zu 2 ?_
                refine zu 3 ?_
                refine zu 5 ?_
                refine zt 4 ?_
                refine zt 6 ?_
                refine zu 7 ?_
                refine zu 8 ?_
                refine zo 9 (fun K hK => ?_)
                refine goes_ Tryd.func45 zk rfl #[.int .i64 ((rd_T61 t190 x23_2).f0), .int .i64 0, .int .i64 (wrap64 ((l0_3.length : Int) - 1))] (by rfl) rfl rfl zm ?_
                with_reducible refine (saronref00_Sits.calls ((rd_T61 t190 x23_2).f0) 0 (wrap64 ((l0_3.length : Int) - 1)) true _ A52.out).mono ?_
                rintro e w' ⟨rfl, ⟨nd, rfl⟩⟩
                refine ⟨_, rfl, ?_⟩
                refine hK.out _ _ ⟨vb BK188 0, vb BK188 1, vb BK188 2, vb BK188 3, hHeld.2.2.2.2.1, hHeld.2.2.2.2.2.1, hHeld.2.2.2.2.2.2.1, hHeld.2.2.2.2.2.2.2.1, hHeld.2.2.2.2.2.2.2.2.1, hHeld.2.2.2.2.2.2.2.2.2.1, hHeld.2.2.2.2.2.2.2.2.2.2.1, hHeld.2.2.2.2.2.2.2.2.2.2.2⟩ (fun hHeld => ?_)
                clear hK K
                refine zr 131 _ ?_
                refine zu 10 ?_
                refine zu 11 ?_
                refine zu 12 ?_
                refine zu 13 ?_
                refine zu 14 ?_
                refine zu 15 ?_
                refine zu 17 ?_
                refine zu 18 ?_
                refine zu 19 ?_
                refine zu 20 ?_
                refine zt 16 ?_
                refine zt 21 ?_
                refine zu 22 ?_
                refine zu 23 ?_
                refine zu 24 ?_
                refine zu 25 ?_
                refine zu 26 ?_
                refine zu 27 ?_
                refine zu 28 ?_
                refine zu 30 ?_
                refine zt 29 ?_
                refine zt 31 ?_
                refine zu 32 ?_
                refine zu 33 ?_
                refine zu 34 ?_
                refine zd ?_
                have p236 : 0 ≤ (x23_2 : Int) := of_decide_eq_true zs
                have q236 : x23_2 < (t190.length : Int) := of_decide_eq_true zs
                obtain ⟨ad236, e236, hx236_0, hx236_1⟩ := at_T61 (Kd.V_reads' HO_7.out).2.2 x23_2 p236 q236
                obtain rfl : ad231 = ad236 := (by injection e236)
                replace p236 := eq_true p236
                replace q236 := eq_true q236
                have p237 : 0 ≤ (x23_2 : Int) := of_decide_eq_true zs
                have q237 : x23_2 < (t190.length : Int) := of_decide_eq_true zs
                obtain ⟨ad237, e237, hx237_0, hx237_1⟩ := at_T61 (Kd.V_reads' HO_7.out).2.2 x23_2 p237 q237
                obtain rfl : ad231 = ad237 := (by injection e237)
                replace p237 := eq_true p237
                replace q237 := eq_true q237
                try go_wp2
                go_roundg k2
                case measure => have := HJ15.out; have := HK2.out; omega
                case rel => exact ⟨((((rd_T61 t190 x23_2).f1) == (ji65))), (wrap64 (x23_2 + 1)), (by first | rfl | (simp; done) | (simp only [← hji65] <;> (first | rfl | simp)) | (simp [*]; done)), ze, H', ⟨zw HJ15 HK2⟩, ⟨zV HO_7⟩, ⟨zR HO_11⟩, ⟨zV HO_17⟩, ⟨zV HO_19⟩, ⟨zV HO_20⟩, ⟨zc BK188⟩, ⟨zc BK189⟩, ⟨zb⟩⟩
               ·rw [if_neg c64] at H
                have c64b0 : (((rd_T61 t190 x23_2).f0) == (ji63)) = false := beq_eq_false_iff_ne.mpr c64
                have c64b1 : (((rd_T61 t190 x23_2).f0) != (ji63)) = true := bne_iff_ne.mpr c64
                have H' := zh H
                clear H
                obtain ⟨Ao68, co68, eo68⟩ := Kd.V_slice HO_7.out
                subst eo68
                try go_wp2
                replace HO_7 := zh (Kd.V_drew HO_7.out)
                replace HO_11 := zh (Kd.R_drew HO_11.out)
                replace HO_17 := zh (Kd.V_drew HO_17.out)
                replace HO_19 := zh (Kd.V_drew HO_19.out)
                replace HO_20 := zh (Kd.V_drew HO_20.out)
                replace BK188 := zh (blk_drew BK188.out)
                replace BK189 := zh (blk_drew BK189.out)
                replace HB := zh (below_drew1 HB.out)
                have p231 : 0 ≤ (x23_2 : Int) := of_decide_eq_true zs
                have q231 : x23_2 < (t190.length : Int) := of_decide_eq_true zs
                obtain ⟨ad231, e231, hx231_0, hx231_1⟩ := at_T61 (Kd.V_reads' HO_7.out).2.2 x23_2 p231 q231
                cases e231
                replace p231 := eq_true p231
                replace q231 := eq_true q231
                have p233 : 0 ≤ (x23_2 : Int) := of_decide_eq_true zs
                have q233 : x23_2 < (t190.length : Int) := of_decide_eq_true zs
                obtain ⟨ad233, e233, hx233_0, hx233_1⟩ := at_T61 (Kd.V_reads' HO_7.out).2.2 x23_2 p233 q233
                obtain rfl : ad231 = ad233 := (by injection e233)
                replace p233 := eq_true p233
                replace q233 := eq_true q233
                have p234 : 0 ≤ (x23_2 : Int) := of_decide_eq_true zs
                have q234 : x23_2 < (t190.length : Int) := of_decide_eq_true zs
                obtain ⟨ad234, e234, hx234_0, hx234_1⟩ := at_T61 (Kd.V_reads' HO_7.out).2.2 x23_2 p234 q234
                obtain rfl : ad231 = ad234 := (by injection e234)
                replace p234 := eq_true p234
                replace q234 := eq_true q234
                have p235 : 0 ≤ (x23_2 : Int) := of_decide_eq_true zs
                have q235 : x23_2 < (t190.length : Int) := of_decide_eq_true zs
                obtain ⟨ad235, e235, hx235_0, hx235_1⟩ := at_T61 (Kd.V_reads' HO_7.out).2.2 x23_2 p235 q235
                obtain rfl : ad231 = ad235 := (by injection e235)
                replace p235 := eq_true p235
                replace q235 := eq_true q235
                refine start_ (n := 35) (S := fun w' => w'.cell? ⟨gb188, 0, none⟩ = some (.int .i64 a0_0) ∧ w'.cell? ⟨gb188, 1, none⟩ = some (.int .i64 a0_1) ∧ w'.cell? ⟨gb188, 2, none⟩ = some (.int .i64 a0_2) ∧ w'.cell? ⟨gb188, 3, none⟩ = some (.slice A0_3 l0_3.length c0_3) ∧ w'.cell? (ad231.add ((x23_2).toNat * 2)) = some (.int .i64 ((rd_T61 t190 x23_2).f0)) ∧ w'.cell? ⟨(ad231.add ((x23_2).toNat * 2)).block, (ad231.add ((x23_2).toNat * 2)).off + 1, none⟩ = some (.int .i64 ((rd_T61 t190 x23_2).f1)) ∧ w'.cell? (ad231.add ((x23_2).toNat * 2)) = some (.int .i64 ((rd_T61 t190 x23_2).f0)) ∧ w'.cell? ⟨(ad231.add ((x23_2).toNat * 2)).block, (ad231.add ((x23_2).toNat * 2)).off + 1, none⟩ = some (.int .i64 ((rd_T61 t190 x23_2).f1)) ∧ w'.cell? (ad231.add ((x23_2).toNat * 2)) = some (.int .i64 ((rd_T61 t190 x23_2).f0)) ∧ w'.cell? ⟨(ad231.add ((x23_2).toNat * 2)).block, (ad231.add ((x23_2).toNat * 2)).off + 1, none⟩ = some (.int .i64 ((rd_T61 t190 x23_2).f1)) ∧ w'.cell? (ad231.add ((x23_2).toNat * 2)) = some (.int .i64 ((rd_T61 t190 x23_2).f0)) ∧ w'.cell? ⟨(ad231.add ((x23_2).toNat * 2)).block, (ad231.add ((x23_2).toNat * 2)).off + 1, none⟩ = some (.int .i64 ((rd_T61 t190 x23_2).f1))) (ds := []) (Array.replicate 35 false) zk rfl rfl ⟨vb BK188 0, vb BK188 1, vb BK188 2, vb BK188 3, hx231_0, hx231_1, hx233_0, hx233_1, hx234_0, hx234_1, hx235_0, hx235_1⟩ (fun hHeld => ?_); refine with_tabW saronlaw06_KernelBack.tab17 saronlaw06_KernelBack.bits17 (fun HT_ HW_ => ?_)
                generalize wr.drew = w69 at HO_7 HO_11 HO_17 HO_19 HO_20 BK188 BK189 HB hx231_0 hx231_1 hx233_0 hx233_1 hx234_0 hx234_1 hx235_0 hx235_1 hHeld ⊢
                refine zu 0 ?_
                refine zu 1 ?_
                refine zu 2 ?_
                refine zu 3 ?_
                refine zu 5 ?_
                refine zt 4 ?_
                refine zt 6 ?_
                refine zu 7 ?_
                refine zu 8 ?_
                refine zo 9 (fun K hK => ?_)
                refine goes_ Tryd.func45 zk rfl #[.int .i64 ((rd_T61 t190 x23_2).f0), .int .i64 0, .int .i64 (wrap64 ((l0_3.length : Int) - 1))] (by rfl) rfl rfl zm ?_
                with_reducible refine (saronref00_Sits.calls ((rd_T61 t190 x23_2).f0) 0 (wrap64 ((l0_3.length : Int) - 1)) true _ A52.out).mono ?_
                rintro e w' ⟨rfl, ⟨nd, rfl⟩⟩
                refine ⟨_, rfl, ?_⟩
                refine hK.out _ _ ⟨vb BK188 0, vb BK188 1, vb BK188 2, vb BK188 3, hHeld.2.2.2.2.1, hHeld.2.2.2.2.2.1, hHeld.2.2.2.2.2.2.1, hHeld.2.2.2.2.2.2.2.1, hHeld.2.2.2.2.2.2.2.2.1, hHeld.2.2.2.2.2.2.2.2.2.1, hHeld.2.2.2.2.2.2.2.2.2.2.1, hHeld.2.2.2.2.2.2.2.2.2.2.2⟩ (fun hHeld => ?_)
                clear hK K
                refine zr 131 _ ?_
                refine zu 10 ?_
                refine zu 11 ?_
                refine zu 12 ?_
                refine zu 13 ?_
                refine zu 14 ?_
                refine zu 15 ?_
                refine zu 17 ?_
                refine zu 18 ?_
                refine zu 19 ?_
                refine zu 20 ?_
                refine zt 16 ?_
                refine zt 21 ?_
                refine zu 22 ?_
                refine zu 23 ?_
                refine zu 24 ?_
                refine zu 25 ?_
                refine zu 26 ?_
                refine zu 27 ?_
                refine zu 28 ?_
                refine zu 30 ?_
                refine zt 29 ?_
                refine zt 31 ?_
                refine zu 32 ?_
                refine zu 33 ?_
                refine zu 34 ?_
                refine zd ?_
                have p236 : 0 ≤ (x23_2 : Int) := of_decide_eq_true zs
                have q236 : x23_2 < (t190.length : Int) := of_decide_eq_true zs
                obtain ⟨ad236, e236, hx236_0, hx236_1⟩ := at_T61 (Kd.V_reads' HO_7.out).2.2 x23_2 p236 q236
                obtain rfl : ad231 = ad236 := (by injection e236)
                replace p236 := eq_true p236
                replace q236 := eq_true q236
                try go_wp2
                go_roundg k2
                case measure => have := HJ15.out; have := HK2.out; omega
                case rel => exact ⟨(false), (wrap64 (x23_2 + 1)), ze, ze, H', ⟨zw HJ15 HK2⟩, ⟨zV HO_7⟩, ⟨zR HO_11⟩, ⟨zV HO_17⟩, ⟨zV HO_19⟩, ⟨zV HO_20⟩, ⟨zc BK188⟩, ⟨zc BK189⟩, ⟨zb⟩⟩
           ·replace c53 := Bool.eq_false_iff.mpr c53
            subst c53
            have H1 : (some false) = some r := by rw [if_neg (show ¬ (false = true) by decide)] at H; exact H
            clear H
            have H := H1
            clear H1
            obtain rfl := Option.some.inj H
            obtain ⟨Ao70, co70, eo70⟩ := Kd.V_slice HO_7.out
            subst eo70
            try go_wp2
            replace HO_7 := zh (Kd.V_drew HO_7.out)
            replace HO_11 := zh (Kd.R_drew HO_11.out)
            replace HO_17 := zh (Kd.V_drew HO_17.out)
            replace HO_19 := zh (Kd.V_drew HO_19.out)
            replace HO_20 := zh (Kd.V_drew HO_20.out)
            replace BK188 := zh (blk_drew BK188.out)
            replace BK189 := zh (blk_drew BK189.out)
            replace HB := zh (below_drew1 HB.out)
            have p231 : 0 ≤ (x23_2 : Int) := of_decide_eq_true zs
            have q231 : x23_2 < (t190.length : Int) := of_decide_eq_true zs
            obtain ⟨ad231, e231, hx231_0, hx231_1⟩ := at_T61 (Kd.V_reads' HO_7.out).2.2 x23_2 p231 q231
            cases e231
            replace p231 := eq_true p231
            replace q231 := eq_true q231
            refine start_ (n := 35) (S := fun w' => w'.cell? ⟨gb188, 0, none⟩ = some (.int .i64 a0_0) ∧ w'.cell? ⟨gb188, 1, none⟩ = some (.int .i64 a0_1) ∧ w'.cell? ⟨gb188, 2, none⟩ = some (.int .i64 a0_2) ∧ w'.cell? ⟨gb188, 3, none⟩ = some (.slice A0_3 l0_3.length c0_3) ∧ w'.cell? (ad231.add ((x23_2).toNat * 2)) = some (.int .i64 ((rd_T61 t190 x23_2).f0)) ∧ w'.cell? ⟨(ad231.add ((x23_2).toNat * 2)).block, (ad231.add ((x23_2).toNat * 2)).off + 1, none⟩ = some (.int .i64 ((rd_T61 t190 x23_2).f1))) (ds := []) (Array.replicate 35 false) zk rfl rfl ⟨vb BK188 0, vb BK188 1, vb BK188 2, vb BK188 3, hx231_0, hx231_1⟩ (fun hHeld => ?_); refine with_tabW saronlaw06_KernelBack.tab17 saronlaw06_KernelBack.bits17 (fun HT_ HW_ => ?_)
            generalize wr.drew = w71 at HO_7 HO_11 HO_17 HO_19 HO_20 BK188 BK189 HB hx231_0 hx231_1 hHeld ⊢
            refine zu 0 ?_
            refine zu 1 ?_
            refine zu 2 ?_
            refine zu 3 ?_
            refine zu 5 ?_
            refine zt 4 ?_
            refine zt 6 ?_
            refine zu 7 ?_
            refine zu 8 ?_
            refine zo 9 (fun K hK => ?_)
            refine goes_ Tryd.func45 zk rfl #[.int .i64 ((rd_T61 t190 x23_2).f0), .int .i64 0, .int .i64 (wrap64 ((l0_3.length : Int) - 1))] (by rfl) rfl rfl zm ?_
            with_reducible refine (saronref00_Sits.calls ((rd_T61 t190 x23_2).f0) 0 (wrap64 ((l0_3.length : Int) - 1)) false _ A52.out).mono ?_
            rintro e w' ⟨rfl, ⟨nd, rfl⟩⟩
            refine ⟨_, rfl, ?_⟩
            refine hK.out _ _ ⟨vb BK188 0, vb BK188 1, vb BK188 2, vb BK188 3, hHeld.2.2.2.2.1, hHeld.2.2.2.2.2⟩ (fun hHeld => ?_)
            clear hK K
            refine zr 131 _ ?_
            refine zu 10 ?_
            refine zu 11 ?_
            refine zn 12 ?_
            refine zn 13 ?_
            refine zn 14 ?_
            refine zn 15 ?_
            refine zn 16 ?_
            refine zn 17 ?_
            refine zn 18 ?_
            refine zn 19 ?_
            refine zn 20 ?_
            refine zn 21 ?_
            refine zn 22 ?_
            refine zu 23 ?_
            refine zu 24 ?_
            refine zn 25 ?_
            refine zn 26 ?_
            refine zn 27 ?_
            refine zn 28 ?_
            refine zn 29 ?_
            refine zn 30 ?_
            refine zn 31 ?_
            refine zn 32 ?_
            refine zn 33 ?_
            refine zu 34 ?_
            refine zd ?_
            try go_wp2
            go_ret
            exact ⟨zf, zb⟩
          ·rw [if_neg c51] at H
           exact absurd H (by simp)
         ·rw [if_neg c50] at H
          have c50b0 : decide (x23_2 < (t190.length : Int)) = false := decide_eq_false c50
          clear c50
          have HC72 := zh H
          clear H
          obtain ⟨Ao73, co73, eo73⟩ := Kd.V_slice HO_7.out
          subst eo73
          go_upto_region 20 with (fail)
          go_cut [188] (fun v188 wc => ∃ (kq : Nat) (x188_71 : Bool), v188 = .bool x188_71 ∧ Aside0 (saronlaw06_KernelBack.j2 kq t196 t197 t198 t220 t223 t224 t227 t230 x188_71 a0_0 a0_1 a0_2 l0_3 = some r) ∧ Aside0 (kq ≤ k2) ∧ Aside0 (Kd.R (Kd.int .i64) 3 wc w.heap.size (fun _ => True) (.slice Ao28 t198.length co28) t198) ∧ Aside0 (Kd.V (Kd.int .i64) 3 wc w.heap.size (fun k_ => some k_ ≠ ((.slice Ao28 t198.length co28) : Value).ownBlock ∧ k_ ≠ gb188 ∧ k_ ≠ gb189) v221 t220) ∧ Aside0 (Kd.V (Kd.int .i64) 3 wc w.heap.size (fun k_ => some k_ ≠ ((.slice Ao28 t198.length co28) : Value).ownBlock ∧ k_ ≠ gb188 ∧ k_ ≠ gb189) v225 t224) ∧ Aside0 (Kd.V (Kd.int .i64) 3 wc w.heap.size (fun k_ => some k_ ≠ ((.slice Ao28 t198.length co28) : Value).ownBlock ∧ k_ ≠ gb188 ∧ k_ ≠ gb189) v228 t227) ∧ Aside0 (wc.heap[gb188]? = some (.cells #[.int .i64 a0_0, .int .i64 a0_1, .int .i64 a0_2, (.slice A0_3 l0_3.length c0_3)] 24 (0, 0))) ∧ Aside0 (wc.heap[gb189]? = some (.cells #[.int .i64 a1_0, .int .i64 a1_1] 61 (0, 0))) ∧ Aside0 (Below w.heap.size w wc))
          case first =>
           have H := HC72.out
           clear HC72
           by_cases c74 : t196 = t197
           ·rw [if_pos c74] at H
            have c74b0 : (t196 == t197) = true := beq_iff_eq.mpr c74
            have c74b1 : (t196 != t197) = false := bne_eq_false_iff_eq.mpr c74
            clear c74
            (first | rw [c74b0] | (simp only [i64_w, i32_w]; rw [c74b0]) | skip)
            have H' := zh H
            clear H
            go_wp2
            go_meet
            case rel => exact ⟨_, (false), ze, H', ⟨by have := HJ15.out; have := HK2.out; first | omega | exact Nat.le_refl _⟩, ⟨zR HO_11⟩, ⟨zV HO_17⟩, ⟨zV HO_19⟩, ⟨zV HO_20⟩, ⟨zc BK188⟩, ⟨zc BK189⟩, ⟨zb⟩⟩
           ·rw [if_neg c74] at H
            have c74b0 : (t196 == t197) = false := beq_eq_false_iff_ne.mpr c74
            have c74b1 : (t196 != t197) = true := bne_iff_ne.mpr c74
            (first | rw [c74b0] | (simp only [i64_w, i32_w]; rw [c74b0]) | skip)
            have H' := zh H
            clear H
            go_wp2
            go_meet
            case rel => exact ⟨_, ((x22_2 != (t230 == 4))), ze, H', ⟨by have := HJ15.out; have := HK2.out; first | omega | exact Nat.le_refl _⟩, ⟨zR HO_11⟩, ⟨zV HO_17⟩, ⟨zV HO_19⟩, ⟨zV HO_20⟩, ⟨zc BK188⟩, ⟨zc BK189⟩, ⟨zb⟩⟩
          case rest =>
           as_aux_lemma =>
            clear HC72
            try clear p2
            try clear q2
            try clear hx2
            try clear c4
            try clear c5
            try clear p6
            try clear c7
            try clear p23
            try clear q23
            try clear hx23
            try clear c45
            try clear c50
            try clear c50b0
            try clear c51
            try clear c53
            try clear p64
            try clear c74
            try clear c74b0
            try clear c74b1
            try clear hx231_0
            try clear hx231_1
            try clear hx233_0
            try clear hx233_1
            try clear hx234_0
            try clear hx234_1
            try clear hx235_0
            try clear hx235_1
            try clear hx236_0
            try clear hx236_1
            try clear p231
            try clear p233
            try clear p234
            try clear p235
            try clear p236
            try clear q231
            try clear q233
            try clear q234
            try clear q235
            try clear q236
            obtain ⟨kq, x188_71, rfl, HA, HJ71, HO_11, HO_17, HO_19, HO_20, BK188, BK189, HB⟩ := hcut
            cases kq with
            | zero => exact absurd HA.out (by simp [saronlaw06_KernelBack.j2])
            | succ kj71 =>
             have H := HA.out
             clear HA
             simp only [saronlaw06_KernelBack.j2] at H
             by_cases c75 : x188_71 = true
             ·subst c75
              have H1 : (some false) = some r := by rw [if_pos rfl] at H; exact H
              clear H
              have H := H1
              clear H1
              obtain rfl := Option.some.inj H
              go_wp2
              go_ret
              exact ⟨zf, zb⟩
             ·replace c75 := Bool.eq_false_iff.mpr c75
              subst c75
              have H1 : (if t230 = 4 then (if (wrap64 ((t224.length : Int) + (t227.length : Int))) = 0 then (if t223 = 0 then ((saronref00_Equal.f kj71 t220 t198).bind fun t238 => (if t238 = true then ((saronlaw06_works.f).bind fun t239 => (some t239)) else (some false))) else (some false)) else (some false)) else (saronlaw06_KernelBack.l1 kj71 t196 t197 t198 t220 t223 t224 t227 0 a0_0 a0_1 a0_2 l0_3)) = some r := by rw [if_neg (show ¬ (false = true) by decide)] at H; exact H
              clear H
              have H := H1
              clear H1
              by_cases c76 : t230 = 4
              ·rw [if_pos c76] at H
               have c76b0 : (t230 == 4) = true := beq_iff_eq.mpr c76
               have c76b1 : (t230 != 4) = false := bne_eq_false_iff_eq.mpr c76
               clear c76
               by_cases c77 : (wrap64 ((t224.length : Int) + (t227.length : Int))) = 0
               ·rw [if_pos c77] at H
                have c77b0 : ((wrap64 ((t224.length : Int) + (t227.length : Int))) == 0) = true := beq_iff_eq.mpr c77
                have c77b1 : ((wrap64 ((t224.length : Int) + (t227.length : Int))) != 0) = false := bne_eq_false_iff_eq.mpr c77
                clear c77
                by_cases c78 : t223 = 0
                ·rw [if_pos c78] at H
                 have c78b0 : (t223 == 0) = true := beq_iff_eq.mpr c78
                 have c78b1 : (t223 != 0) = false := bne_eq_false_iff_eq.mpr c78
                 clear c78
                 replace H := Option.bind_eq_some_iff.mp H
                 obtain ⟨t238, A790, H⟩ := H
                 replace H : (if t238 = true then ((saronlaw06_works.f).bind fun t239 => (some t239)) else (some false)) = some r := H
                 have A79 := zh A790
                 clear A790
                 by_cases c80 : t238 = true
                 ·subst c80
                  have H1 : ((saronlaw06_works.f).bind fun t239 => (some t239)) = some r := by rw [if_pos rfl] at H; exact H
                  clear H
                  have H := H1
                  clear H1
                  replace H := Option.bind_eq_some_iff.mp H
                  obtain ⟨t239, A810, H⟩ := H
                  replace H : (some t239) = some r := H
                  have A81 := zh A810
                  clear A810
                  obtain rfl := Option.some.inj H
                  obtain ⟨Ao82, co82, eo82⟩ := Kd.V_slice HO_19.out
                  subst eo82
                  obtain ⟨Ao83, co83, eo83⟩ := Kd.V_slice HO_20.out
                  subst eo83
                  obtain ⟨Ao84, co84, eo84⟩ := Kd.V_slice HO_17.out
                  subst eo84
                  go_wp2_with (first | (go_at_call 18; (with_reducible refine (saronref00_Equal.calls kj71 _ _ t220 _ _ t198 true _ ?side1 ?side2 ?side3 ?side4 A79.out).mono ?_); (case side1 => repeat (first | exact (Kd.V_reads' HO_17.out).2.2 | (with_reducible refine Kd.C_alloc ?_ _) | (with_reducible refine Kd.C_drewN ?_ _) | (with_reducible refine Kd.C_drew ?_))); (case side2 => exact (Kd.V_reads' HO_17.out).2.1); (case side3 => repeat (first | exact (Kd.R_reads' HO_11.out).2.2 | (with_reducible refine Kd.C_alloc ?_ _) | (with_reducible refine Kd.C_drewN ?_ _) | (with_reducible refine Kd.C_drew ?_))); (case side4 => exact (Kd.R_reads' HO_11.out).2.1); rintro e w' ⟨rfl, ⟨nd, rfl⟩⟩) | (go_at_call 21; (with_reducible refine (saronlaw06_works.calls  t239 _ ?side1 A81.out).mono ?_); (case side1 => exact Glob.below HG.out zb); rintro e w85 ⟨rfl, hb⟩; have n0_ := zh (Kd.R_below (zR HO_11) hb); have n1_ := zh (Kd.V_below (zV HO_17) hb); have n2_ := zh (Kd.V_below (zV HO_19) hb); have n3_ := zh (Kd.V_below (zV HO_20) hb); have n4_ := zh (blk_below (g := gb188) (o := .cells #[.int .i64 a0_0, .int .i64 a0_1, .int .i64 a0_2, .slice A0_3 l0_3.length c0_3] 24 (0, 0)) (zc BK188) hb); have n5_ := zh (blk_below (g := gb189) (o := .cells #[.int .i64 a1_0, .int .i64 a1_1] 61 (0, 0)) (zc BK189) hb); have n6_ := zh (below_step zb hb); clear HO_11; clear HO_17; clear HO_19; clear HO_20; clear BK188; clear BK189; clear HB; have HO_11 := n0_; have HO_17 := n1_; have HO_19 := n2_; have HO_20 := n3_; have BK188 := n4_; have BK189 := n5_; have HB := n6_; clear n0_ n1_ n2_ n3_ n4_ n5_ n6_; (try clear hb); (try clear hb2); (try clear hk); (try clear hi)))
                  go_ret
                  exact ⟨zf, zb⟩
                 ·replace c80 := Bool.eq_false_iff.mpr c80
                  subst c80
                  have H1 : (some false) = some r := by rw [if_neg (show ¬ (false = true) by decide)] at H; exact H
                  clear H
                  have H := H1
                  clear H1
                  obtain rfl := Option.some.inj H
                  obtain ⟨Ao86, co86, eo86⟩ := Kd.V_slice HO_19.out
                  subst eo86
                  obtain ⟨Ao87, co87, eo87⟩ := Kd.V_slice HO_20.out
                  subst eo87
                  obtain ⟨Ao88, co88, eo88⟩ := Kd.V_slice HO_17.out
                  subst eo88
                  go_wp2_with (first | (go_at_call 18; (with_reducible refine (saronref00_Equal.calls kj71 _ _ t220 _ _ t198 false _ ?side1 ?side2 ?side3 ?side4 A79.out).mono ?_); (case side1 => repeat (first | exact (Kd.V_reads' HO_17.out).2.2 | (with_reducible refine Kd.C_alloc ?_ _) | (with_reducible refine Kd.C_drewN ?_ _) | (with_reducible refine Kd.C_drew ?_))); (case side2 => exact (Kd.V_reads' HO_17.out).2.1); (case side3 => repeat (first | exact (Kd.R_reads' HO_11.out).2.2 | (with_reducible refine Kd.C_alloc ?_ _) | (with_reducible refine Kd.C_drewN ?_ _) | (with_reducible refine Kd.C_drew ?_))); (case side4 => exact (Kd.R_reads' HO_11.out).2.1); rintro e w' ⟨rfl, ⟨nd, rfl⟩⟩))
                  go_ret
                  exact ⟨zf, zb⟩
                ·rw [if_neg c78] at H
                 have c78b0 : (t223 == 0) = false := beq_eq_false_iff_ne.mpr c78
                 have c78b1 : (t223 != 0) = true := bne_iff_ne.mpr c78
                 obtain rfl := Option.some.inj H
                 obtain ⟨Ao89, co89, eo89⟩ := Kd.V_slice HO_19.out
                 subst eo89
                 obtain ⟨Ao90, co90, eo90⟩ := Kd.V_slice HO_20.out
                 subst eo90
                 go_wp2
                 go_ret
                 exact ⟨zf, zb⟩
               ·rw [if_neg c77] at H
                have c77b0 : ((wrap64 ((t224.length : Int) + (t227.length : Int))) == 0) = false := beq_eq_false_iff_ne.mpr c77
                have c77b1 : ((wrap64 ((t224.length : Int) + (t227.length : Int))) != 0) = true := bne_iff_ne.mpr c77
                obtain rfl := Option.some.inj H
                obtain ⟨Ao91, co91, eo91⟩ := Kd.V_slice HO_19.out
                subst eo91
                obtain ⟨Ao92, co92, eo92⟩ := Kd.V_slice HO_20.out
                subst eo92
                go_wp2
                go_ret
                exact ⟨zf, zb⟩
              ·rw [if_neg c76] at H
               have c76b0 : (t230 == 4) = false := beq_eq_false_iff_ne.mpr c76
               have c76b1 : (t230 != 4) = true := bne_iff_ne.mpr c76
               have H' := zh H
               clear H
               go_wp2
               go_loopg [24] kj71 (fun kq v24 w' => ∃ (x24_4 : Int), v24 = .int .i64 x24_4 ∧ Aside0 (saronlaw06_KernelBack.l1 kq t196 t197 t198 t220 t223 t224 t227 x24_4 a0_0 a0_1 a0_2 l0_3 = some r) ∧ Aside0 (kq ≤ kj71) ∧ Aside0 (Kd.R (Kd.int .i64) 3 w' w.heap.size (fun _ => True) (.slice Ao28 t198.length co28) t198) ∧ Aside0 (Kd.V (Kd.int .i64) 3 w' w.heap.size (fun k_ => some k_ ≠ ((.slice Ao28 t198.length co28) : Value).ownBlock ∧ k_ ≠ gb188 ∧ k_ ≠ gb189) v221 t220) ∧ Aside0 (Kd.V (Kd.int .i64) 3 w' w.heap.size (fun k_ => some k_ ≠ ((.slice Ao28 t198.length co28) : Value).ownBlock ∧ k_ ≠ gb188 ∧ k_ ≠ gb189) v225 t224) ∧ Aside0 (Kd.V (Kd.int .i64) 3 w' w.heap.size (fun k_ => some k_ ≠ ((.slice Ao28 t198.length co28) : Value).ownBlock ∧ k_ ≠ gb188 ∧ k_ ≠ gb189) v228 t227) ∧ Aside0 (w'.heap[gb188]? = some (.cells #[.int .i64 a0_0, .int .i64 a0_1, .int .i64 a0_2, (.slice A0_3 l0_3.length c0_3)] 24 (0, 0))) ∧ Aside0 (w'.heap[gb189]? = some (.cells #[.int .i64 a1_0, .int .i64 a1_1] 61 (0, 0))) ∧ Aside0 (Below w.heap.size w w'))
               case atStart => exact ⟨(0), ze, H', ⟨Nat.le_refl _⟩, ⟨zR HO_11⟩, ⟨zV HO_17⟩, ⟨zV HO_19⟩, ⟨zV HO_20⟩, ⟨zc BK188⟩, ⟨zc BK189⟩, ⟨zb⟩⟩
               case round =>
                as_aux_lemma =>
                 clear H'
                 try clear p2
                 try clear q2
                 try clear hx2
                 try clear c4
                 try clear c5
                 try clear p6
                 try clear c7
                 try clear c8
                 try clear p23
                 try clear q23
                 try clear hx23
                 try clear c45
                 try clear c50
                 try clear c50b0
                 try clear c51
                 try clear c53
                 try clear p64
                 try clear c74
                 try clear c74b0
                 try clear c74b1
                 try clear c75
                 try clear c76
                 try clear c76b0
                 try clear c76b1
                 try clear c77
                 try clear c77b0
                 try clear c77b1
                 try clear c78
                 try clear c78b0
                 try clear c78b1
                 try clear c80
                 try clear hx231_0
                 try clear hx231_1
                 try clear hx233_0
                 try clear hx233_1
                 try clear hx234_0
                 try clear hx234_1
                 try clear hx235_0
                 try clear hx235_1
                 try clear hx236_0
                 try clear hx236_1
                 try clear p2
                 try clear p23
                 try clear p231
                 try clear p233
                 try clear p234
                 try clear p235
                 try clear p236
                 try clear p6
                 try clear p64
                 try clear q2
                 try clear q23
                 try clear q231
                 try clear q233
                 try clear q234
                 try clear q235
                 try clear q236
                 obtain ⟨x24_4, rfl, HA, HK4, HO_11, HO_17, HO_19, HO_20, BK188, BK189, HB⟩ := hrel
                 cases gk with
                 | zero => exact absurd HA.out (by simp [saronlaw06_KernelBack.l1])
                 | succ k4 =>
                  have H := HA.out
                  clear HA
                  simp only [saronlaw06_KernelBack.l1] at H
                  by_cases c93 : x24_4 < 2
                  ·rw [if_pos c93] at H
                   have c93b0 : decide (x24_4 < 2) = true := decide_eq_true c93
                   clear c93
                   have HC94 := zh H
                   clear H
                   go_upto_if 215 with (fail)
                   go_cut [25] (fun v25 wc => ∃ (kq : Nat) (x25_93 : Int), v25 = .int .i64 x25_93 ∧ Aside0 (saronlaw06_KernelBack.j4 kq t196 t197 t198 t220 t223 t224 t227 x24_4 x25_93 a0_0 a0_1 a0_2 l0_3 = some r) ∧ Aside0 (kq ≤ k4) ∧ Aside0 (Kd.R (Kd.int .i64) 3 wc w.heap.size (fun _ => True) (.slice Ao28 t198.length co28) t198) ∧ Aside0 (Kd.V (Kd.int .i64) 3 wc w.heap.size (fun k_ => some k_ ≠ ((.slice Ao28 t198.length co28) : Value).ownBlock ∧ k_ ≠ gb188 ∧ k_ ≠ gb189) v221 t220) ∧ Aside0 (Kd.V (Kd.int .i64) 3 wc w.heap.size (fun k_ => some k_ ≠ ((.slice Ao28 t198.length co28) : Value).ownBlock ∧ k_ ≠ gb188 ∧ k_ ≠ gb189) v225 t224) ∧ Aside0 (Kd.V (Kd.int .i64) 3 wc w.heap.size (fun k_ => some k_ ≠ ((.slice Ao28 t198.length co28) : Value).ownBlock ∧ k_ ≠ gb188 ∧ k_ ≠ gb189) v228 t227) ∧ Aside0 (wc.heap[gb188]? = some (.cells #[.int .i64 a0_0, .int .i64 a0_1, .int .i64 a0_2, (.slice A0_3 l0_3.length c0_3)] 24 (0, 0))) ∧ Aside0 (wc.heap[gb189]? = some (.cells #[.int .i64 a1_0, .int .i64 a1_1] 61 (0, 0))) ∧ Aside0 (Below w.heap.size w wc))
                   case first =>
                    have H := HC94.out
                    clear HC94
                    by_cases c95 : x24_4 = 1
                    ·rw [if_pos c95] at H
                     have c95b0 : (x24_4 == 1) = true := beq_iff_eq.mpr c95
                     have c95b1 : (x24_4 != 1) = false := bne_eq_false_iff_eq.mpr c95
                     clear c95
                     (first | rw [c95b0] | (simp only [i64_w, i32_w]; rw [c95b0]) | skip)
                     have H' := zh H
                     clear H
                     go_wp2
                     go_meet
                     case rel => exact ⟨_, (t197), ze, H', ⟨by have := HJ15.out; have := HK2.out; have := HJ71.out; have := HK4.out; first | omega | exact Nat.le_refl _⟩, ⟨zR HO_11⟩, ⟨zV HO_17⟩, ⟨zV HO_19⟩, ⟨zV HO_20⟩, ⟨zc BK188⟩, ⟨zc BK189⟩, ⟨zb⟩⟩
                    ·rw [if_neg c95] at H
                     have c95b0 : (x24_4 == 1) = false := beq_eq_false_iff_ne.mpr c95
                     have c95b1 : (x24_4 != 1) = true := bne_iff_ne.mpr c95
                     (first | rw [c95b0] | (simp only [i64_w, i32_w]; rw [c95b0]) | skip)
                     have H' := zh H
                     clear H
                     go_wp2
                     go_meet
                     case rel => exact ⟨_, (t196), ze, H', ⟨by have := HJ15.out; have := HK2.out; have := HJ71.out; have := HK4.out; first | omega | exact Nat.le_refl _⟩, ⟨zR HO_11⟩, ⟨zV HO_17⟩, ⟨zV HO_19⟩, ⟨zV HO_20⟩, ⟨zc BK188⟩, ⟨zc BK189⟩, ⟨zb⟩⟩
                   case rest =>
                    as_aux_lemma =>
                     clear HC94
                     try clear p2
                     try clear q2
                     try clear hx2
                     try clear c4
                     try clear c5
                     try clear p6
                     try clear c7
                     try clear c8
                     try clear c9
                     try clear p23
                     try clear q23
                     try clear hx23
                     try clear c45
                     try clear c50
                     try clear c50b0
                     try clear c51
                     try clear c53
                     try clear p64
                     try clear c74
                     try clear c74b0
                     try clear c74b1
                     try clear c75
                     try clear c76
                     try clear c76b0
                     try clear c76b1
                     try clear c77
                     try clear c77b0
                     try clear c77b1
                     try clear c78
                     try clear c78b0
                     try clear c78b1
                     try clear c80
                     try clear c93
                     try clear c93b0
                     try clear c95
                     try clear c95b0
                     try clear c95b1
                     try clear hx231_0
                     try clear hx231_1
                     try clear hx233_0
                     try clear hx233_1
                     try clear hx234_0
                     try clear hx234_1
                     try clear hx235_0
                     try clear hx235_1
                     try clear hx236_0
                     try clear hx236_1
                     try clear p2
                     try clear p23
                     try clear p231
                     try clear p233
                     try clear p234
                     try clear p235
                     try clear p236
                     try clear p6
                     try clear p64
                     try clear q2
                     try clear q23
                     try clear q231
                     try clear q233
                     try clear q234
                     try clear q235
                     try clear q236
                     obtain ⟨kq, x25_93, rfl, HA, HJ93, HO_11, HO_17, HO_19, HO_20, BK188, BK189, HB⟩ := hcut
                     cases kq with
                     | zero => exact absurd HA.out (by simp [saronlaw06_KernelBack.j4])
                     | succ kj93 =>
                      have H := HA.out
                      clear HA
                      simp only [saronlaw06_KernelBack.j4] at H
                      replace H := Option.bind_eq_some_iff.mp H
                      obtain ⟨⟨t245, t248⟩, A960, H⟩ := H
                      replace H : ((kernel_Part.f a0_0 a0_1 a0_2 l0_3 t227 x25_93).bind fun bt249 => (if t248 = 0 then (if bt249.2 = 0 then ((saronref00_Equal.f kj93 t245 bt249.1).bind fun t253 => (if t253 = true then (saronlaw06_KernelBack.l1 kj93 t196 t197 t198 t220 t223 t224 t227 (wrap64 (x24_4 + 1)) a0_0 a0_1 a0_2 l0_3) else (some false))) else (some false)) else (some false))) = some r := H
                      have A96 := zh A960
                      clear A960
                      replace H := Option.bind_eq_some_iff.mp H
                      obtain ⟨⟨t249, t252⟩, A970, H⟩ := H
                      replace H : (if t248 = 0 then (if t252 = 0 then ((saronref00_Equal.f kj93 t245 t249).bind fun t253 => (if t253 = true then (saronlaw06_KernelBack.l1 kj93 t196 t197 t198 t220 t223 t224 t227 (wrap64 (x24_4 + 1)) a0_0 a0_1 a0_2 l0_3) else (some false))) else (some false)) else (some false)) = some r := H
                      have A97 := zh A970
                      clear A970
                      by_cases c98 : t248 = 0
                      ·rw [if_pos c98] at H
                       have c98b0 : (t248 == 0) = true := beq_iff_eq.mpr c98
                       have c98b1 : (t248 != 0) = false := bne_eq_false_iff_eq.mpr c98
                       clear c98
                       by_cases c99 : t252 = 0
                       ·rw [if_pos c99] at H
                        have c99b0 : (t252 == 0) = true := beq_iff_eq.mpr c99
                        have c99b1 : (t252 != 0) = false := bne_eq_false_iff_eq.mpr c99
                        clear c99
                        replace H := Option.bind_eq_some_iff.mp H
                        obtain ⟨t253, A1000, H⟩ := H
                        replace H : (if t253 = true then (saronlaw06_KernelBack.l1 kj93 t196 t197 t198 t220 t223 t224 t227 (wrap64 (x24_4 + 1)) a0_0 a0_1 a0_2 l0_3) else (some false)) = some r := H
                        have A100 := zh A1000
                        clear A1000
                        by_cases c101 : t253 = true
                        ·subst c101
                         have H1 : (saronlaw06_KernelBack.l1 kj93 t196 t197 t198 t220 t223 t224 t227 (wrap64 (x24_4 + 1)) a0_0 a0_1 a0_2 l0_3) = some r := by rw [if_pos rfl] at H; exact H
                         clear H
                         have H := H1
                         clear H1
                         have H' := zh H
                         clear H
                         have hnb102 := NB188_189.out
                         have hnc102 := NB189_188.out
                         have hcz103_0 : wc.cell? ⟨gb188, 0, none⟩ = some (.int .i64 a0_0) := vb BK188 0
                         have hcz103_1 : wc.cell? ⟨gb188, 1, none⟩ = some (.int .i64 a0_1) := vb BK188 1
                         have hcz103_2 : wc.cell? ⟨gb188, 2, none⟩ = some (.int .i64 a0_2) := vb BK188 2
                         have hcz103_3 : wc.cell? ⟨gb188, 3, none⟩ = some (.slice A0_3 l0_3.length c0_3) := vb BK188 3
                         have hfz103_0 := blk_frozen BK188.out 0
                         have hfz103_1 := blk_frozen BK188.out 1
                         have hfz103_2 := blk_frozen BK188.out 2
                         have hfz103_3 := blk_frozen BK188.out 3
                         obtain ⟨Ao104, co104, eo104⟩ := Kd.V_slice HO_19.out
                         subst eo104
                         go_wp2_with (first | ((with_reducible refine gate_callee (f := 16) rfl ?_); refine goesL_ (some 221) rfl rfl Tryd.func16 zk rfl #[.agg #[.int .i64 a0_0, .int .i64 a0_1, .int .i64 a0_2, .slice A0_3 l0_3.length c0_3], .slice Ao104 t224.length co104, .int .i64 x25_93] rfl zm ?_; (with_reducible refine (kernel_Part.calls a0_0 a0_1 a0_2 _ _ l0_3 _ _ t224 x25_93 t245 t248 _ ?side1 ?side2 ?side3 ?side4 ?side5 A96.out).mono ?_); (case side1 => repeat (first | exact (Kd.C_below HR0_3.out HB.out) | (with_reducible refine Kd.C_alloc ?_ _) | (with_reducible refine Kd.C_drewN ?_ _) | (with_reducible refine Kd.C_drew ?_))); (case side2 => exact HC0_3.out); (case side3 => repeat (first | exact (Kd.V_reads' HO_19.out).2.2 | (with_reducible refine Kd.C_alloc ?_ _) | (with_reducible refine Kd.C_drewN ?_ _) | (with_reducible refine Kd.C_drew ?_))); (case side4 => exact (Kd.V_reads' HO_19.out).2.1); (case side5 => exact Glob.below HG.out zb); rintro e w105 ⟨v246, rfl, ho0, hb⟩; refine ⟨_, rfl, ?_⟩; have n0_ := zh (Kd.R_below (zR HO_11) hb); have n1_ := zh (Kd.V_below (zV HO_17) hb); have n2_ := zh (Kd.V_below (zV HO_19) hb); have n3_ := zh (Kd.V_below (zV HO_20) hb); have n4_ := zh (Kd.V_lower (Kd.V_mono (ok' := fun k_ => some k_ ≠ (.slice Ao28 t198.length co28 : Value).ownBlock ∧ k_ ≠ gb188 ∧ k_ ≠ gb189) ho0 (fun k_ hk_ => ⟨(Kd.fresh' (Kd.R_lt (zR HO_11)) k_ hk_), (Kd.freshB (g := gb188) (o := .cells #[.int .i64 a0_0, .int .i64 a0_1, .int .i64 a0_2, .slice A0_3 l0_3.length c0_3] 24 (0, 0)) (zc BK188) k_ hk_), (Kd.freshB (g := gb189) (o := .cells #[.int .i64 a1_0, .int .i64 a1_1] 61 (0, 0)) (zc BK189) k_ hk_)⟩)) (below_size zb)); have n5_ := zh (blk_below (g := gb188) (o := .cells #[.int .i64 a0_0, .int .i64 a0_1, .int .i64 a0_2, .slice A0_3 l0_3.length c0_3] 24 (0, 0)) (zc BK188) hb); have n6_ := zh (blk_below (g := gb189) (o := .cells #[.int .i64 a1_0, .int .i64 a1_1] 61 (0, 0)) (zc BK189) hb); have n7_ := zh (below_step zb hb); clear HO_11; clear HO_17; clear HO_19; clear HO_20; clear BK188; clear BK189; clear HB; have HO_11 := n0_; have HO_17 := n1_; have HO_19 := n2_; have HO_20 := n3_; have HO247 := n4_; have BK188 := n5_; have BK189 := n6_; have HB := n7_; clear n0_ n1_ n2_ n3_ n4_ n5_ n6_ n7_; (try clear hb); (try clear hb2); (try clear hk); (try clear hi); (try clear ho0); have hcz106_0 : w105.cell? ⟨gb188, 0, none⟩ = some (.int .i64 a0_0) := vb BK188 0; have hcz106_1 : w105.cell? ⟨gb188, 1, none⟩ = some (.int .i64 a0_1) := vb BK188 1; have hcz106_2 : w105.cell? ⟨gb188, 2, none⟩ = some (.int .i64 a0_2) := vb BK188 2; have hcz106_3 : w105.cell? ⟨gb188, 3, none⟩ = some (.slice A0_3 l0_3.length c0_3) := vb BK188 3; have hfz106_0 := blk_frozen BK188.out 0; have hfz106_1 := blk_frozen BK188.out 1; have hfz106_2 := blk_frozen BK188.out 2; have hfz106_3 := blk_frozen BK188.out 3; obtain ⟨Ao107, co107, eo107⟩ := Kd.V_slice HO_20.out; subst eo107) | ((with_reducible refine gate_callee (f := 16) rfl ?_); refine goesL_ (some 228) rfl rfl Tryd.func16 zk rfl #[.agg #[.int .i64 a0_0, .int .i64 a0_1, .int .i64 a0_2, .slice A0_3 l0_3.length c0_3], .slice Ao107 t227.length co107, .int .i64 x25_93] rfl zm ?_; (with_reducible refine (kernel_Part.calls a0_0 a0_1 a0_2 _ _ l0_3 _ _ t227 x25_93 t249 t252 _ ?side1 ?side2 ?side3 ?side4 ?side5 A97.out).mono ?_); (case side1 => repeat (first | exact (Kd.C_below HR0_3.out HB.out) | (with_reducible refine Kd.C_alloc ?_ _) | (with_reducible refine Kd.C_drewN ?_ _) | (with_reducible refine Kd.C_drew ?_))); (case side2 => exact HC0_3.out); (case side3 => repeat (first | exact (Kd.V_reads' HO_20.out).2.2 | (with_reducible refine Kd.C_alloc ?_ _) | (with_reducible refine Kd.C_drewN ?_ _) | (with_reducible refine Kd.C_drew ?_))); (case side4 => exact (Kd.V_reads' HO_20.out).2.1); (case side5 => exact Glob.below HG.out zb); rintro e w108 ⟨v250, rfl, ho0, hb⟩; refine ⟨_, rfl, ?_⟩; have n0_ := zh (Kd.R_below (zR HO_11) hb); have n1_ := zh (Kd.V_below (zV HO_17) hb); have n2_ := zh (Kd.V_below (zV HO_19) hb); have n3_ := zh (Kd.V_below (zV HO_20) hb); have n4_ := zh (Kd.V_below (zV HO247) hb); have n5_ := zh (Kd.V_lower (Kd.V_mono (ok' := fun k_ => some k_ ≠ (.slice Ao28 t198.length co28 : Value).ownBlock ∧ k_ ≠ gb188 ∧ k_ ≠ gb189) ho0 (fun k_ hk_ => ⟨(Kd.fresh' (Kd.R_lt (zR HO_11)) k_ hk_), (Kd.freshB (g := gb188) (o := .cells #[.int .i64 a0_0, .int .i64 a0_1, .int .i64 a0_2, .slice A0_3 l0_3.length c0_3] 24 (0, 0)) (zc BK188) k_ hk_), (Kd.freshB (g := gb189) (o := .cells #[.int .i64 a1_0, .int .i64 a1_1] 61 (0, 0)) (zc BK189) k_ hk_)⟩)) (below_size zb)); have n6_ := zh (blk_below (g := gb188) (o := .cells #[.int .i64 a0_0, .int .i64 a0_1, .int .i64 a0_2, .slice A0_3 l0_3.length c0_3] 24 (0, 0)) (zc BK188) hb); have n7_ := zh (blk_below (g := gb189) (o := .cells #[.int .i64 a1_0, .int .i64 a1_1] 61 (0, 0)) (zc BK189) hb); have n8_ := zh (below_step zb hb); clear HO_11; clear HO_17; clear HO_19; clear HO_20; clear HO247; clear BK188; clear BK189; clear HB; have HO_11 := n0_; have HO_17 := n1_; have HO_19 := n2_; have HO_20 := n3_; have HO247 := n4_; have HO251 := n5_; have BK188 := n6_; have BK189 := n7_; have HB := n8_; clear n0_ n1_ n2_ n3_ n4_ n5_ n6_ n7_ n8_; (try clear hb); (try clear hb2); (try clear hk); (try clear hi); (try clear ho0); obtain ⟨Ao109, co109, eo109⟩ := Kd.V_slice HO247.out; subst eo109; obtain ⟨Ao110, co110, eo110⟩ := Kd.V_slice HO251.out; subst eo110) | (go_at_call 18; (with_reducible refine (saronref00_Equal.calls kj93 _ _ t245 _ _ t249 true _ ?side1 ?side2 ?side3 ?side4 A100.out).mono ?_); (case side1 => repeat (first | exact (Kd.V_reads' HO247.out).2.2 | (with_reducible refine Kd.C_alloc ?_ _) | (with_reducible refine Kd.C_drewN ?_ _) | (with_reducible refine Kd.C_drew ?_))); (case side2 => exact (Kd.V_reads' HO247.out).2.1); (case side3 => repeat (first | exact (Kd.V_reads' HO251.out).2.2 | (with_reducible refine Kd.C_alloc ?_ _) | (with_reducible refine Kd.C_drewN ?_ _) | (with_reducible refine Kd.C_drew ?_))); (case side4 => exact (Kd.V_reads' HO251.out).2.1); rintro e w' ⟨rfl, ⟨nd, rfl⟩⟩))
                         go_roundg kj93
                         case measure => have := HJ15.out; have := HK2.out; have := HJ71.out; have := HK4.out; have := HJ93.out; omega
                         case rel => exact ⟨(wrap64 (x24_4 + 1)), ze, H', ⟨by have := HJ15.out; have := HK2.out; have := HJ71.out; have := HK4.out; have := HJ93.out; omega⟩, ⟨zR HO_11⟩, ⟨zV HO_17⟩, ⟨zV HO_19⟩, ⟨zV HO_20⟩, ⟨zc BK188⟩, ⟨zc BK189⟩, ⟨zb⟩⟩
                        ·replace c101 := Bool.eq_false_iff.mpr c101
                         subst c101
                         have H1 : (some false) = some r := by rw [if_neg (show ¬ (false = true) by decide)] at H; exact H
                         clear H
                         have H := H1
                         clear H1
                         obtain rfl := Option.some.inj H
                         have hnb111 := NB188_189.out
                         have hnc111 := NB189_188.out
                         have hcz112_0 : wc.cell? ⟨gb188, 0, none⟩ = some (.int .i64 a0_0) := vb BK188 0
                         have hcz112_1 : wc.cell? ⟨gb188, 1, none⟩ = some (.int .i64 a0_1) := vb BK188 1
                         have hcz112_2 : wc.cell? ⟨gb188, 2, none⟩ = some (.int .i64 a0_2) := vb BK188 2
                         have hcz112_3 : wc.cell? ⟨gb188, 3, none⟩ = some (.slice A0_3 l0_3.length c0_3) := vb BK188 3
                         have hfz112_0 := blk_frozen BK188.out 0
                         have hfz112_1 := blk_frozen BK188.out 1
                         have hfz112_2 := blk_frozen BK188.out 2
                         have hfz112_3 := blk_frozen BK188.out 3
                         obtain ⟨Ao113, co113, eo113⟩ := Kd.V_slice HO_19.out
                         subst eo113
                         go_wp2_with (first | ((with_reducible refine gate_callee (f := 16) rfl ?_); refine goesL_ (some 221) rfl rfl Tryd.func16 zk rfl #[.agg #[.int .i64 a0_0, .int .i64 a0_1, .int .i64 a0_2, .slice A0_3 l0_3.length c0_3], .slice Ao113 t224.length co113, .int .i64 x25_93] rfl zm ?_; (with_reducible refine (kernel_Part.calls a0_0 a0_1 a0_2 _ _ l0_3 _ _ t224 x25_93 t245 t248 _ ?side1 ?side2 ?side3 ?side4 ?side5 A96.out).mono ?_); (case side1 => repeat (first | exact (Kd.C_below HR0_3.out HB.out) | (with_reducible refine Kd.C_alloc ?_ _) | (with_reducible refine Kd.C_drewN ?_ _) | (with_reducible refine Kd.C_drew ?_))); (case side2 => exact HC0_3.out); (case side3 => repeat (first | exact (Kd.V_reads' HO_19.out).2.2 | (with_reducible refine Kd.C_alloc ?_ _) | (with_reducible refine Kd.C_drewN ?_ _) | (with_reducible refine Kd.C_drew ?_))); (case side4 => exact (Kd.V_reads' HO_19.out).2.1); (case side5 => exact Glob.below HG.out zb); rintro e w114 ⟨v246, rfl, ho0, hb⟩; refine ⟨_, rfl, ?_⟩; have n0_ := zh (Kd.R_below (zR HO_11) hb); have n1_ := zh (Kd.V_below (zV HO_17) hb); have n2_ := zh (Kd.V_below (zV HO_19) hb); have n3_ := zh (Kd.V_below (zV HO_20) hb); have n4_ := zh (Kd.V_lower (Kd.V_mono (ok' := fun k_ => some k_ ≠ (.slice Ao28 t198.length co28 : Value).ownBlock ∧ k_ ≠ gb188 ∧ k_ ≠ gb189) ho0 (fun k_ hk_ => ⟨(Kd.fresh' (Kd.R_lt (zR HO_11)) k_ hk_), (Kd.freshB (g := gb188) (o := .cells #[.int .i64 a0_0, .int .i64 a0_1, .int .i64 a0_2, .slice A0_3 l0_3.length c0_3] 24 (0, 0)) (zc BK188) k_ hk_), (Kd.freshB (g := gb189) (o := .cells #[.int .i64 a1_0, .int .i64 a1_1] 61 (0, 0)) (zc BK189) k_ hk_)⟩)) (below_size zb)); have n5_ := zh (blk_below (g := gb188) (o := .cells #[.int .i64 a0_0, .int .i64 a0_1, .int .i64 a0_2, .slice A0_3 l0_3.length c0_3] 24 (0, 0)) (zc BK188) hb); have n6_ := zh (blk_below (g := gb189) (o := .cells #[.int .i64 a1_0, .int .i64 a1_1] 61 (0, 0)) (zc BK189) hb); have n7_ := zh (below_step zb hb); clear HO_11; clear HO_17; clear HO_19; clear HO_20; clear BK188; clear BK189; clear HB; have HO_11 := n0_; have HO_17 := n1_; have HO_19 := n2_; have HO_20 := n3_; have HO247 := n4_; have BK188 := n5_; have BK189 := n6_; have HB := n7_; clear n0_ n1_ n2_ n3_ n4_ n5_ n6_ n7_; (try clear hb); (try clear hb2); (try clear hk); (try clear hi); (try clear ho0); have hcz115_0 : w114.cell? ⟨gb188, 0, none⟩ = some (.int .i64 a0_0) := vb BK188 0; have hcz115_1 : w114.cell? ⟨gb188, 1, none⟩ = some (.int .i64 a0_1) := vb BK188 1; have hcz115_2 : w114.cell? ⟨gb188, 2, none⟩ = some (.int .i64 a0_2) := vb BK188 2; have hcz115_3 : w114.cell? ⟨gb188, 3, none⟩ = some (.slice A0_3 l0_3.length c0_3) := vb BK188 3; have hfz115_0 := blk_frozen BK188.out 0; have hfz115_1 := blk_frozen BK188.out 1; have hfz115_2 := blk_frozen BK188.out 2; have hfz115_3 := blk_frozen BK188.out 3; obtain ⟨Ao116, co116, eo116⟩ := Kd.V_slice HO_20.out; subst eo116) | ((with_reducible refine gate_callee (f := 16) rfl ?_); refine goesL_ (some 228) rfl rfl Tryd.func16 zk rfl #[.agg #[.int .i64 a0_0, .int .i64 a0_1, .int .i64 a0_2, .slice A0_3 l0_3.length c0_3], .slice Ao116 t227.length co116, .int .i64 x25_93] rfl zm ?_; (with_reducible refine (kernel_Part.calls a0_0 a0_1 a0_2 _ _ l0_3 _ _ t227 x25_93 t249 t252 _ ?side1 ?side2 ?side3 ?side4 ?side5 A97.out).mono ?_); (case side1 => repeat (first | exact (Kd.C_below HR0_3.out HB.out) | (with_reducible refine Kd.C_alloc ?_ _) | (with_reducible refine Kd.C_drewN ?_ _) | (with_reducible refine Kd.C_drew ?_))); (case side2 => exact HC0_3.out); (case side3 => repeat (first | exact (Kd.V_reads' HO_20.out).2.2 | (with_reducible refine Kd.C_alloc ?_ _) | (with_reducible refine Kd.C_drewN ?_ _) | (with_reducible refine Kd.C_drew ?_))); (case side4 => exact (Kd.V_reads' HO_20.out).2.1); (case side5 => exact Glob.below HG.out zb); rintro e w117 ⟨v250, rfl, ho0, hb⟩; refine ⟨_, rfl, ?_⟩; have n0_ := zh (Kd.R_below (zR HO_11) hb); have n1_ := zh (Kd.V_below (zV HO_17) hb); have n2_ := zh (Kd.V_below (zV HO_19) hb); have n3_ := zh (Kd.V_below (zV HO_20) hb); have n4_ := zh (Kd.V_below (zV HO247) hb); have n5_ := zh (Kd.V_lower (Kd.V_mono (ok' := fun k_ => some k_ ≠ (.slice Ao28 t198.length co28 : Value).ownBlock ∧ k_ ≠ gb188 ∧ k_ ≠ gb189) ho0 (fun k_ hk_ => ⟨(Kd.fresh' (Kd.R_lt (zR HO_11)) k_ hk_), (Kd.freshB (g := gb188) (o := .cells #[.int .i64 a0_0, .int .i64 a0_1, .int .i64 a0_2, .slice A0_3 l0_3.length c0_3] 24 (0, 0)) (zc BK188) k_ hk_), (Kd.freshB (g := gb189) (o := .cells #[.int .i64 a1_0, .int .i64 a1_1] 61 (0, 0)) (zc BK189) k_ hk_)⟩)) (below_size zb)); have n6_ := zh (blk_below (g := gb188) (o := .cells #[.int .i64 a0_0, .int .i64 a0_1, .int .i64 a0_2, .slice A0_3 l0_3.length c0_3] 24 (0, 0)) (zc BK188) hb); have n7_ := zh (blk_below (g := gb189) (o := .cells #[.int .i64 a1_0, .int .i64 a1_1] 61 (0, 0)) (zc BK189) hb); have n8_ := zh (below_step zb hb); clear HO_11; clear HO_17; clear HO_19; clear HO_20; clear HO247; clear BK188; clear BK189; clear HB; have HO_11 := n0_; have HO_17 := n1_; have HO_19 := n2_; have HO_20 := n3_; have HO247 := n4_; have HO251 := n5_; have BK188 := n6_; have BK189 := n7_; have HB := n8_; clear n0_ n1_ n2_ n3_ n4_ n5_ n6_ n7_ n8_; (try clear hb); (try clear hb2); (try clear hk); (try clear hi); (try clear ho0); obtain ⟨Ao118, co118, eo118⟩ := Kd.V_slice HO247.out; subst eo118; obtain ⟨Ao119, co119, eo119⟩ := Kd.V_slice HO251.out; subst eo119) | (go_at_call 18; (with_reducible refine (saronref00_Equal.calls kj93 _ _ t245 _ _ t249 false _ ?side1 ?side2 ?side3 ?side4 A100.out).mono ?_); (case side1 => repeat (first | exact (Kd.V_reads' HO247.out).2.2 | (with_reducible refine Kd.C_alloc ?_ _) | (with_reducible refine Kd.C_drewN ?_ _) | (with_reducible refine Kd.C_drew ?_))); (case side2 => exact (Kd.V_reads' HO247.out).2.1); (case side3 => repeat (first | exact (Kd.V_reads' HO251.out).2.2 | (with_reducible refine Kd.C_alloc ?_ _) | (with_reducible refine Kd.C_drewN ?_ _) | (with_reducible refine Kd.C_drew ?_))); (case side4 => exact (Kd.V_reads' HO251.out).2.1); rintro e w' ⟨rfl, ⟨nd, rfl⟩⟩))
                         go_ret
                         exact ⟨zf, zb⟩
                       ·rw [if_neg c99] at H
                        have c99b0 : (t252 == 0) = false := beq_eq_false_iff_ne.mpr c99
                        have c99b1 : (t252 != 0) = true := bne_iff_ne.mpr c99
                        obtain rfl := Option.some.inj H
                        have hnb120 := NB188_189.out
                        have hnc120 := NB189_188.out
                        have hcz121_0 : wc.cell? ⟨gb188, 0, none⟩ = some (.int .i64 a0_0) := vb BK188 0
                        have hcz121_1 : wc.cell? ⟨gb188, 1, none⟩ = some (.int .i64 a0_1) := vb BK188 1
                        have hcz121_2 : wc.cell? ⟨gb188, 2, none⟩ = some (.int .i64 a0_2) := vb BK188 2
                        have hcz121_3 : wc.cell? ⟨gb188, 3, none⟩ = some (.slice A0_3 l0_3.length c0_3) := vb BK188 3
                        have hfz121_0 := blk_frozen BK188.out 0
                        have hfz121_1 := blk_frozen BK188.out 1
                        have hfz121_2 := blk_frozen BK188.out 2
                        have hfz121_3 := blk_frozen BK188.out 3
                        obtain ⟨Ao122, co122, eo122⟩ := Kd.V_slice HO_19.out
                        subst eo122
                        go_wp2_with (first | ((with_reducible refine gate_callee (f := 16) rfl ?_); refine goesL_ (some 221) rfl rfl Tryd.func16 zk rfl #[.agg #[.int .i64 a0_0, .int .i64 a0_1, .int .i64 a0_2, .slice A0_3 l0_3.length c0_3], .slice Ao122 t224.length co122, .int .i64 x25_93] rfl zm ?_; (with_reducible refine (kernel_Part.calls a0_0 a0_1 a0_2 _ _ l0_3 _ _ t224 x25_93 t245 t248 _ ?side1 ?side2 ?side3 ?side4 ?side5 A96.out).mono ?_); (case side1 => repeat (first | exact (Kd.C_below HR0_3.out HB.out) | (with_reducible refine Kd.C_alloc ?_ _) | (with_reducible refine Kd.C_drewN ?_ _) | (with_reducible refine Kd.C_drew ?_))); (case side2 => exact HC0_3.out); (case side3 => repeat (first | exact (Kd.V_reads' HO_19.out).2.2 | (with_reducible refine Kd.C_alloc ?_ _) | (with_reducible refine Kd.C_drewN ?_ _) | (with_reducible refine Kd.C_drew ?_))); (case side4 => exact (Kd.V_reads' HO_19.out).2.1); (case side5 => exact Glob.below HG.out zb); rintro e w123 ⟨v246, rfl, ho0, hb⟩; refine ⟨_, rfl, ?_⟩; have n0_ := zh (Kd.R_below (zR HO_11) hb); have n1_ := zh (Kd.V_below (zV HO_17) hb); have n2_ := zh (Kd.V_below (zV HO_19) hb); have n3_ := zh (Kd.V_below (zV HO_20) hb); have n4_ := zh (Kd.V_lower (Kd.V_mono (ok' := fun k_ => some k_ ≠ (.slice Ao28 t198.length co28 : Value).ownBlock ∧ k_ ≠ gb188 ∧ k_ ≠ gb189) ho0 (fun k_ hk_ => ⟨(Kd.fresh' (Kd.R_lt (zR HO_11)) k_ hk_), (Kd.freshB (g := gb188) (o := .cells #[.int .i64 a0_0, .int .i64 a0_1, .int .i64 a0_2, .slice A0_3 l0_3.length c0_3] 24 (0, 0)) (zc BK188) k_ hk_), (Kd.freshB (g := gb189) (o := .cells #[.int .i64 a1_0, .int .i64 a1_1] 61 (0, 0)) (zc BK189) k_ hk_)⟩)) (below_size zb)); have n5_ := zh (blk_below (g := gb188) (o := .cells #[.int .i64 a0_0, .int .i64 a0_1, .int .i64 a0_2, .slice A0_3 l0_3.length c0_3] 24 (0, 0)) (zc BK188) hb); have n6_ := zh (blk_below (g := gb189) (o := .cells #[.int .i64 a1_0, .int .i64 a1_1] 61 (0, 0)) (zc BK189) hb); have n7_ := zh (below_step zb hb); clear HO_11; clear HO_17; clear HO_19; clear HO_20; clear BK188; clear BK189; clear HB; have HO_11 := n0_; have HO_17 := n1_; have HO_19 := n2_; have HO_20 := n3_; have HO247 := n4_; have BK188 := n5_; have BK189 := n6_; have HB := n7_; clear n0_ n1_ n2_ n3_ n4_ n5_ n6_ n7_; (try clear hb); (try clear hb2); (try clear hk); (try clear hi); (try clear ho0); have hcz124_0 : w123.cell? ⟨gb188, 0, none⟩ = some (.int .i64 a0_0) := vb BK188 0; have hcz124_1 : w123.cell? ⟨gb188, 1, none⟩ = some (.int .i64 a0_1) := vb BK188 1; have hcz124_2 : w123.cell? ⟨gb188, 2, none⟩ = some (.int .i64 a0_2) := vb BK188 2; have hcz124_3 : w123.cell? ⟨gb188, 3, none⟩ = some (.slice A0_3 l0_3.length c0_3) := vb BK188 3; have hfz124_0 := blk_frozen BK188.out 0; have hfz124_1 := blk_frozen BK188.out 1; have hfz124_2 := blk_frozen BK188.out 2; have hfz124_3 := blk_frozen BK188.out 3; obtain ⟨Ao125, co125, eo125⟩ := Kd.V_slice HO_20.out; subst eo125) | ((with_reducible refine gate_callee (f := 16) rfl ?_); refine goesL_ (some 228) rfl rfl Tryd.func16 zk rfl #[.agg #[.int .i64 a0_0, .int .i64 a0_1, .int .i64 a0_2, .slice A0_3 l0_3.length c0_3], .slice Ao125 t227.length co125, .int .i64 x25_93] rfl zm ?_; (with_reducible refine (kernel_Part.calls a0_0 a0_1 a0_2 _ _ l0_3 _ _ t227 x25_93 t249 t252 _ ?side1 ?side2 ?side3 ?side4 ?side5 A97.out).mono ?_); (case side1 => repeat (first | exact (Kd.C_below HR0_3.out HB.out) | (with_reducible refine Kd.C_alloc ?_ _) | (with_reducible refine Kd.C_drewN ?_ _) | (with_reducible refine Kd.C_drew ?_))); (case side2 => exact HC0_3.out); (case side3 => repeat (first | exact (Kd.V_reads' HO_20.out).2.2 | (with_reducible refine Kd.C_alloc ?_ _) | (with_reducible refine Kd.C_drewN ?_ _) | (with_reducible refine Kd.C_drew ?_))); (case side4 => exact (Kd.V_reads' HO_20.out).2.1); (case side5 => exact Glob.below HG.out zb); rintro e w126 ⟨v250, rfl, ho0, hb⟩; refine ⟨_, rfl, ?_⟩; have n0_ := zh (Kd.R_below (zR HO_11) hb); have n1_ := zh (Kd.V_below (zV HO_17) hb); have n2_ := zh (Kd.V_below (zV HO_19) hb); have n3_ := zh (Kd.V_below (zV HO_20) hb); have n4_ := zh (Kd.V_below (zV HO247) hb); have n5_ := zh (Kd.V_lower (Kd.V_mono (ok' := fun k_ => some k_ ≠ (.slice Ao28 t198.length co28 : Value).ownBlock ∧ k_ ≠ gb188 ∧ k_ ≠ gb189) ho0 (fun k_ hk_ => ⟨(Kd.fresh' (Kd.R_lt (zR HO_11)) k_ hk_), (Kd.freshB (g := gb188) (o := .cells #[.int .i64 a0_0, .int .i64 a0_1, .int .i64 a0_2, .slice A0_3 l0_3.length c0_3] 24 (0, 0)) (zc BK188) k_ hk_), (Kd.freshB (g := gb189) (o := .cells #[.int .i64 a1_0, .int .i64 a1_1] 61 (0, 0)) (zc BK189) k_ hk_)⟩)) (below_size zb)); have n6_ := zh (blk_below (g := gb188) (o := .cells #[.int .i64 a0_0, .int .i64 a0_1, .int .i64 a0_2, .slice A0_3 l0_3.length c0_3] 24 (0, 0)) (zc BK188) hb); have n7_ := zh (blk_below (g := gb189) (o := .cells #[.int .i64 a1_0, .int .i64 a1_1] 61 (0, 0)) (zc BK189) hb); have n8_ := zh (below_step zb hb); clear HO_11; clear HO_17; clear HO_19; clear HO_20; clear HO247; clear BK188; clear BK189; clear HB; have HO_11 := n0_; have HO_17 := n1_; have HO_19 := n2_; have HO_20 := n3_; have HO247 := n4_; have HO251 := n5_; have BK188 := n6_; have BK189 := n7_; have HB := n8_; clear n0_ n1_ n2_ n3_ n4_ n5_ n6_ n7_ n8_; (try clear hb); (try clear hb2); (try clear hk); (try clear hi); (try clear ho0)))
                        go_ret
                        exact ⟨zf, zb⟩
                      ·rw [if_neg c98] at H
                       have c98b0 : (t248 == 0) = false := beq_eq_false_iff_ne.mpr c98
                       have c98b1 : (t248 != 0) = true := bne_iff_ne.mpr c98
                       obtain rfl := Option.some.inj H
                       have hnb127 := NB188_189.out
                       have hnc127 := NB189_188.out
                       have hcz128_0 : wc.cell? ⟨gb188, 0, none⟩ = some (.int .i64 a0_0) := vb BK188 0
                       have hcz128_1 : wc.cell? ⟨gb188, 1, none⟩ = some (.int .i64 a0_1) := vb BK188 1
                       have hcz128_2 : wc.cell? ⟨gb188, 2, none⟩ = some (.int .i64 a0_2) := vb BK188 2
                       have hcz128_3 : wc.cell? ⟨gb188, 3, none⟩ = some (.slice A0_3 l0_3.length c0_3) := vb BK188 3
                       have hfz128_0 := blk_frozen BK188.out 0
                       have hfz128_1 := blk_frozen BK188.out 1
                       have hfz128_2 := blk_frozen BK188.out 2
                       have hfz128_3 := blk_frozen BK188.out 3
                       obtain ⟨Ao129, co129, eo129⟩ := Kd.V_slice HO_19.out
                       subst eo129
                       go_wp2_with (first | ((with_reducible refine gate_callee (f := 16) rfl ?_); refine goesL_ (some 221) rfl rfl Tryd.func16 zk rfl #[.agg #[.int .i64 a0_0, .int .i64 a0_1, .int .i64 a0_2, .slice A0_3 l0_3.length c0_3], .slice Ao129 t224.length co129, .int .i64 x25_93] rfl zm ?_; (with_reducible refine (kernel_Part.calls a0_0 a0_1 a0_2 _ _ l0_3 _ _ t224 x25_93 t245 t248 _ ?side1 ?side2 ?side3 ?side4 ?side5 A96.out).mono ?_); (case side1 => repeat (first | exact (Kd.C_below HR0_3.out HB.out) | (with_reducible refine Kd.C_alloc ?_ _) | (with_reducible refine Kd.C_drewN ?_ _) | (with_reducible refine Kd.C_drew ?_))); (case side2 => exact HC0_3.out); (case side3 => repeat (first | exact (Kd.V_reads' HO_19.out).2.2 | (with_reducible refine Kd.C_alloc ?_ _) | (with_reducible refine Kd.C_drewN ?_ _) | (with_reducible refine Kd.C_drew ?_))); (case side4 => exact (Kd.V_reads' HO_19.out).2.1); (case side5 => exact Glob.below HG.out zb); rintro e w130 ⟨v246, rfl, ho0, hb⟩; refine ⟨_, rfl, ?_⟩; have n0_ := zh (Kd.R_below (zR HO_11) hb); have n1_ := zh (Kd.V_below (zV HO_17) hb); have n2_ := zh (Kd.V_below (zV HO_19) hb); have n3_ := zh (Kd.V_below (zV HO_20) hb); have n4_ := zh (Kd.V_lower (Kd.V_mono (ok' := fun k_ => some k_ ≠ (.slice Ao28 t198.length co28 : Value).ownBlock ∧ k_ ≠ gb188 ∧ k_ ≠ gb189) ho0 (fun k_ hk_ => ⟨(Kd.fresh' (Kd.R_lt (zR HO_11)) k_ hk_), (Kd.freshB (g := gb188) (o := .cells #[.int .i64 a0_0, .int .i64 a0_1, .int .i64 a0_2, .slice A0_3 l0_3.length c0_3] 24 (0, 0)) (zc BK188) k_ hk_), (Kd.freshB (g := gb189) (o := .cells #[.int .i64 a1_0, .int .i64 a1_1] 61 (0, 0)) (zc BK189) k_ hk_)⟩)) (below_size zb)); have n5_ := zh (blk_below (g := gb188) (o := .cells #[.int .i64 a0_0, .int .i64 a0_1, .int .i64 a0_2, .slice A0_3 l0_3.length c0_3] 24 (0, 0)) (zc BK188) hb); have n6_ := zh (blk_below (g := gb189) (o := .cells #[.int .i64 a1_0, .int .i64 a1_1] 61 (0, 0)) (zc BK189) hb); have n7_ := zh (below_step zb hb); clear HO_11; clear HO_17; clear HO_19; clear HO_20; clear BK188; clear BK189; clear HB; have HO_11 := n0_; have HO_17 := n1_; have HO_19 := n2_; have HO_20 := n3_; have HO247 := n4_; have BK188 := n5_; have BK189 := n6_; have HB := n7_; clear n0_ n1_ n2_ n3_ n4_ n5_ n6_ n7_; (try clear hb); (try clear hb2); (try clear hk); (try clear hi); (try clear ho0); have hcz131_0 : w130.cell? ⟨gb188, 0, none⟩ = some (.int .i64 a0_0) := vb BK188 0; have hcz131_1 : w130.cell? ⟨gb188, 1, none⟩ = some (.int .i64 a0_1) := vb BK188 1; have hcz131_2 : w130.cell? ⟨gb188, 2, none⟩ = some (.int .i64 a0_2) := vb BK188 2; have hcz131_3 : w130.cell? ⟨gb188, 3, none⟩ = some (.slice A0_3 l0_3.length c0_3) := vb BK188 3; have hfz131_0 := blk_frozen BK188.out 0; have hfz131_1 := blk_frozen BK188.out 1; have hfz131_2 := blk_frozen BK188.out 2; have hfz131_3 := blk_frozen BK188.out 3; obtain ⟨Ao132, co132, eo132⟩ := Kd.V_slice HO_20.out; subst eo132) | ((with_reducible refine gate_callee (f := 16) rfl ?_); refine goesL_ (some 228) rfl rfl Tryd.func16 zk rfl #[.agg #[.int .i64 a0_0, .int .i64 a0_1, .int .i64 a0_2, .slice A0_3 l0_3.length c0_3], .slice Ao132 t227.length co132, .int .i64 x25_93] rfl zm ?_; (with_reducible refine (kernel_Part.calls a0_0 a0_1 a0_2 _ _ l0_3 _ _ t227 x25_93 t249 t252 _ ?side1 ?side2 ?side3 ?side4 ?side5 A97.out).mono ?_); (case side1 => repeat (first | exact (Kd.C_below HR0_3.out HB.out) | (with_reducible refine Kd.C_alloc ?_ _) | (with_reducible refine Kd.C_drewN ?_ _) | (with_reducible refine Kd.C_drew ?_))); (case side2 => exact HC0_3.out); (case side3 => repeat (first | exact (Kd.V_reads' HO_20.out).2.2 | (with_reducible refine Kd.C_alloc ?_ _) | (with_reducible refine Kd.C_drewN ?_ _) | (with_reducible refine Kd.C_drew ?_))); (case side4 => exact (Kd.V_reads' HO_20.out).2.1); (case side5 => exact Glob.below HG.out zb); rintro e w133 ⟨v250, rfl, ho0, hb⟩; refine ⟨_, rfl, ?_⟩; have n0_ := zh (Kd.R_below (zR HO_11) hb); have n1_ := zh (Kd.V_below (zV HO_17) hb); have n2_ := zh (Kd.V_below (zV HO_19) hb); have n3_ := zh (Kd.V_below (zV HO_20) hb); have n4_ := zh (Kd.V_below (zV HO247) hb); have n5_ := zh (Kd.V_lower (Kd.V_mono (ok' := fun k_ => some k_ ≠ (.slice Ao28 t198.length co28 : Value).ownBlock ∧ k_ ≠ gb188 ∧ k_ ≠ gb189) ho0 (fun k_ hk_ => ⟨(Kd.fresh' (Kd.R_lt (zR HO_11)) k_ hk_), (Kd.freshB (g := gb188) (o := .cells #[.int .i64 a0_0, .int .i64 a0_1, .int .i64 a0_2, .slice A0_3 l0_3.length c0_3] 24 (0, 0)) (zc BK188) k_ hk_), (Kd.freshB (g := gb189) (o := .cells #[.int .i64 a1_0, .int .i64 a1_1] 61 (0, 0)) (zc BK189) k_ hk_)⟩)) (below_size zb)); have n6_ := zh (blk_below (g := gb188) (o := .cells #[.int .i64 a0_0, .int .i64 a0_1, .int .i64 a0_2, .slice A0_3 l0_3.length c0_3] 24 (0, 0)) (zc BK188) hb); have n7_ := zh (blk_below (g := gb189) (o := .cells #[.int .i64 a1_0, .int .i64 a1_1] 61 (0, 0)) (zc BK189) hb); have n8_ := zh (below_step zb hb); clear HO_11; clear HO_17; clear HO_19; clear HO_20; clear HO247; clear BK188; clear BK189; clear HB; have HO_11 := n0_; have HO_17 := n1_; have HO_19 := n2_; have HO_20 := n3_; have HO247 := n4_; have HO251 := n5_; have BK188 := n6_; have BK189 := n7_; have HB := n8_; clear n0_ n1_ n2_ n3_ n4_ n5_ n6_ n7_ n8_; (try clear hb); (try clear hb2); (try clear hk); (try clear hi); (try clear ho0)))
                       go_ret
                       exact ⟨zf, zb⟩
                  ·rw [if_neg c93] at H
                   have c93b0 : decide (x24_4 < 2) = false := decide_eq_false c93
                   clear c93
                   replace H := Option.bind_eq_some_iff.mp H
                   obtain ⟨t240, A1340, H⟩ := H
                   replace H : (if t240 = true then (some false) else (if t223 = 0 then ((saronref00_Equal.f k4 t220 t198).bind fun t241 => (if t241 = true then ((saronlaw06_works.f).bind fun t242 => (some t242)) else (if t223 = 63 then ((saronlaw06_works.f).bind fun t243 => (some t243)) else (some false)))) else (if t223 = 63 then ((saronlaw06_works.f).bind fun t244 => (some t244)) else (some false)))) = some r := H
                   have A134 := zh A1340
                   clear A1340
                   by_cases c135 : t240 = true
                   ·subst c135
                    have H1 : (some false) = some r := by rw [if_pos rfl] at H; exact H
                    clear H
                    have H := H1
                    clear H1
                    obtain rfl := Option.some.inj H
                    obtain ⟨Ao136, co136, eo136⟩ := Kd.V_slice HO_19.out
                    subst eo136
                    obtain ⟨Ao137, co137, eo137⟩ := Kd.V_slice HO_20.out
                    subst eo137
                    go_wp2_with (first | ((with_reducible refine gate_callee (f := 18) rfl ?_); refine goesL_ (some 245) rfl rfl Tryd.func18 zk rfl #[.slice Ao136 t224.length co136, .slice Ao137 t227.length co137] rfl zm ?_; (with_reducible refine (saronref00_Equal.calls k4 _ _ t224 _ _ t227 true _ ?side1 ?side2 ?side3 ?side4 A134.out).mono ?_); (case side1 => repeat (first | exact (Kd.V_reads' HO_19.out).2.2 | (with_reducible refine Kd.C_alloc ?_ _) | (with_reducible refine Kd.C_drewN ?_ _) | (with_reducible refine Kd.C_drew ?_))); (case side2 => exact (Kd.V_reads' HO_19.out).2.1); (case side3 => repeat (first | exact (Kd.V_reads' HO_20.out).2.2 | (with_reducible refine Kd.C_alloc ?_ _) | (with_reducible refine Kd.C_drewN ?_ _) | (with_reducible refine Kd.C_drew ?_))); (case side4 => exact (Kd.V_reads' HO_20.out).2.1); rintro e w' ⟨rfl, ⟨nd, rfl⟩⟩; refine ⟨_, rfl, ?_⟩))
                    go_ret
                    exact ⟨zf, zb⟩
                   ·replace c135 := Bool.eq_false_iff.mpr c135
                    subst c135
                    have H1 : (if t223 = 0 then ((saronref00_Equal.f k4 t220 t198).bind fun t241 => (if t241 = true then ((saronlaw06_works.f).bind fun t242 => (some t242)) else (if t223 = 63 then ((saronlaw06_works.f).bind fun t243 => (some t243)) else (some false)))) else (if t223 = 63 then ((saronlaw06_works.f).bind fun t244 => (some t244)) else (some false))) = some r := by rw [if_neg (show ¬ (false = true) by decide)] at H; exact H
                    clear H
                    have H := H1
                    clear H1
                    by_cases c138 : t223 = 0
                    ·rw [if_pos c138] at H
                     have c138b0 : (t223 == 0) = true := beq_iff_eq.mpr c138
                     have c138b1 : (t223 != 0) = false := bne_eq_false_iff_eq.mpr c138
                     clear c138
                     replace H := Option.bind_eq_some_iff.mp H
                     obtain ⟨t241, A1390, H⟩ := H
                     replace H : (if t241 = true then ((saronlaw06_works.f).bind fun t242 => (some t242)) else (if t223 = 63 then ((saronlaw06_works.f).bind fun t243 => (some t243)) else (some false))) = some r := H
                     have A139 := zh A1390
                     clear A1390
                     by_cases c140 : t241 = true
                     ·subst c140
                      have H1 : ((saronlaw06_works.f).bind fun t242 => (some t242)) = some r := by rw [if_pos rfl] at H; exact H
                      clear H
                      have H := H1
                      clear H1
                      replace H := Option.bind_eq_some_iff.mp H
                      obtain ⟨t242, A1410, H⟩ := H
                      replace H : (some t242) = some r := H
                      have A141 := zh A1410
                      clear A1410
                      obtain rfl := Option.some.inj H
                      obtain ⟨Ao142, co142, eo142⟩ := Kd.V_slice HO_19.out
                      subst eo142
                      obtain ⟨Ao143, co143, eo143⟩ := Kd.V_slice HO_20.out
                      subst eo143
                      go_wp2_with (first | ((with_reducible refine gate_callee (f := 18) rfl ?_); refine goesL_ (some 245) rfl rfl Tryd.func18 zk rfl #[.slice Ao142 t224.length co142, .slice Ao143 t227.length co143] rfl zm ?_; (with_reducible refine (saronref00_Equal.calls k4 _ _ t224 _ _ t227 false _ ?side1 ?side2 ?side3 ?side4 A134.out).mono ?_); (case side1 => repeat (first | exact (Kd.V_reads' HO_19.out).2.2 | (with_reducible refine Kd.C_alloc ?_ _) | (with_reducible refine Kd.C_drewN ?_ _) | (with_reducible refine Kd.C_drew ?_))); (case side2 => exact (Kd.V_reads' HO_19.out).2.1); (case side3 => repeat (first | exact (Kd.V_reads' HO_20.out).2.2 | (with_reducible refine Kd.C_alloc ?_ _) | (with_reducible refine Kd.C_drewN ?_ _) | (with_reducible refine Kd.C_drew ?_))); (case side4 => exact (Kd.V_reads' HO_20.out).2.1); rintro e w' ⟨rfl, ⟨nd, rfl⟩⟩; refine ⟨_, rfl, ?_⟩; obtain ⟨Ao144, co144, eo144⟩ := Kd.V_slice HO_17.out; subst eo144) | (go_at_call 18; (with_reducible refine (saronref00_Equal.calls k4 _ _ t220 _ _ t198 true _ ?side1 ?side2 ?side3 ?side4 A139.out).mono ?_); (case side1 => repeat (first | exact (Kd.V_reads' HO_17.out).2.2 | (with_reducible refine Kd.C_alloc ?_ _) | (with_reducible refine Kd.C_drewN ?_ _) | (with_reducible refine Kd.C_drew ?_))); (case side2 => exact (Kd.V_reads' HO_17.out).2.1); (case side3 => repeat (first | exact (Kd.R_reads' HO_11.out).2.2 | (with_reducible refine Kd.C_alloc ?_ _) | (with_reducible refine Kd.C_drewN ?_ _) | (with_reducible refine Kd.C_drew ?_))); (case side4 => exact (Kd.R_reads' HO_11.out).2.1); rintro e w' ⟨rfl, ⟨nd, rfl⟩⟩) | (go_at_call 21; (with_reducible refine (saronlaw06_works.calls  t242 _ ?side1 A141.out).mono ?_); (case side1 => exact Glob.below HG.out zb); rintro e w145 ⟨rfl, hb⟩; have n0_ := zh (Kd.R_below (zR HO_11) hb); have n1_ := zh (Kd.V_below (zV HO_17) hb); have n2_ := zh (Kd.V_below (zV HO_19) hb); have n3_ := zh (Kd.V_below (zV HO_20) hb); have n4_ := zh (blk_below (g := gb188) (o := .cells #[.int .i64 a0_0, .int .i64 a0_1, .int .i64 a0_2, .slice A0_3 l0_3.length c0_3] 24 (0, 0)) (zc BK188) hb); have n5_ := zh (blk_below (g := gb189) (o := .cells #[.int .i64 a1_0, .int .i64 a1_1] 61 (0, 0)) (zc BK189) hb); have n6_ := zh (below_step zb hb); clear HO_11; clear HO_17; clear HO_19; clear HO_20; clear BK188; clear BK189; clear HB; have HO_11 := n0_; have HO_17 := n1_; have HO_19 := n2_; have HO_20 := n3_; have BK188 := n4_; have BK189 := n5_; have HB := n6_; clear n0_ n1_ n2_ n3_ n4_ n5_ n6_; (try clear hb); (try clear hb2); (try clear hk); (try clear hi)))
                      go_ret
                      exact ⟨zf, zb⟩
                     ·replace c140 := Bool.eq_false_iff.mpr c140
                      subst c140
                      have H1 : (if t223 = 63 then ((saronlaw06_works.f).bind fun t243 => (some t243)) else (some false)) = some r := by rw [if_neg (show ¬ (false = true) by decide)] at H; exact H
                      clear H
                      have H := H1
                      clear H1
                      by_cases c146 : t223 = 63
                      ·rw [if_pos c146] at H
                       have c146b0 : (t223 == 63) = true := beq_iff_eq.mpr c146
                       have c146b1 : (t223 != 63) = false := bne_eq_false_iff_eq.mpr c146
                       clear c146
                       replace H := Option.bind_eq_some_iff.mp H
                       obtain ⟨t243, A1470, H⟩ := H
                       replace H : (some t243) = some r := H
                       have A147 := zh A1470
                       clear A1470
                       obtain rfl := Option.some.inj H
                       obtain ⟨Ao148, co148, eo148⟩ := Kd.V_slice HO_19.out
                       subst eo148
                       obtain ⟨Ao149, co149, eo149⟩ := Kd.V_slice HO_20.out
                       subst eo149
                       go_wp2_with (first | ((with_reducible refine gate_callee (f := 18) rfl ?_); refine goesL_ (some 245) rfl rfl Tryd.func18 zk rfl #[.slice Ao148 t224.length co148, .slice Ao149 t227.length co149] rfl zm ?_; (with_reducible refine (saronref00_Equal.calls k4 _ _ t224 _ _ t227 false _ ?side1 ?side2 ?side3 ?side4 A134.out).mono ?_); (case side1 => repeat (first | exact (Kd.V_reads' HO_19.out).2.2 | (with_reducible refine Kd.C_alloc ?_ _) | (with_reducible refine Kd.C_drewN ?_ _) | (with_reducible refine Kd.C_drew ?_))); (case side2 => exact (Kd.V_reads' HO_19.out).2.1); (case side3 => repeat (first | exact (Kd.V_reads' HO_20.out).2.2 | (with_reducible refine Kd.C_alloc ?_ _) | (with_reducible refine Kd.C_drewN ?_ _) | (with_reducible refine Kd.C_drew ?_))); (case side4 => exact (Kd.V_reads' HO_20.out).2.1); rintro e w' ⟨rfl, ⟨nd, rfl⟩⟩; refine ⟨_, rfl, ?_⟩; obtain ⟨Ao150, co150, eo150⟩ := Kd.V_slice HO_17.out; subst eo150) | (go_at_call 18; (with_reducible refine (saronref00_Equal.calls k4 _ _ t220 _ _ t198 false _ ?side1 ?side2 ?side3 ?side4 A139.out).mono ?_); (case side1 => repeat (first | exact (Kd.V_reads' HO_17.out).2.2 | (with_reducible refine Kd.C_alloc ?_ _) | (with_reducible refine Kd.C_drewN ?_ _) | (with_reducible refine Kd.C_drew ?_))); (case side2 => exact (Kd.V_reads' HO_17.out).2.1); (case side3 => repeat (first | exact (Kd.R_reads' HO_11.out).2.2 | (with_reducible refine Kd.C_alloc ?_ _) | (with_reducible refine Kd.C_drewN ?_ _) | (with_reducible refine Kd.C_drew ?_))); (case side4 => exact (Kd.R_reads' HO_11.out).2.1); rintro e w' ⟨rfl, ⟨nd, rfl⟩⟩) | (go_at_call 21; (with_reducible refine (saronlaw06_works.calls  t243 _ ?side1 A147.out).mono ?_); (case side1 => exact Glob.below HG.out zb); rintro e w151 ⟨rfl, hb⟩; have n0_ := zh (Kd.R_below (zR HO_11) hb); have n1_ := zh (Kd.V_below (zV HO_17) hb); have n2_ := zh (Kd.V_below (zV HO_19) hb); have n3_ := zh (Kd.V_below (zV HO_20) hb); have n4_ := zh (blk_below (g := gb188) (o := .cells #[.int .i64 a0_0, .int .i64 a0_1, .int .i64 a0_2, .slice A0_3 l0_3.length c0_3] 24 (0, 0)) (zc BK188) hb); have n5_ := zh (blk_below (g := gb189) (o := .cells #[.int .i64 a1_0, .int .i64 a1_1] 61 (0, 0)) (zc BK189) hb); have n6_ := zh (below_step zb hb); clear HO_11; clear HO_17; clear HO_19; clear HO_20; clear BK188; clear BK189; clear HB; have HO_11 := n0_; have HO_17 := n1_; have HO_19 := n2_; have HO_20 := n3_; have BK188 := n4_; have BK189 := n5_; have HB := n6_; clear n0_ n1_ n2_ n3_ n4_ n5_ n6_; (try clear hb); (try clear hb2); (try clear hk); (try clear hi)))
                       go_ret
                       exact ⟨zf, zb⟩
                      ·rw [if_neg c146] at H
                       have c146b0 : (t223 == 63) = false := beq_eq_false_iff_ne.mpr c146
                       have c146b1 : (t223 != 63) = true := bne_iff_ne.mpr c146
                       obtain rfl := Option.some.inj H
                       obtain ⟨Ao152, co152, eo152⟩ := Kd.V_slice HO_19.out
                       subst eo152
                       obtain ⟨Ao153, co153, eo153⟩ := Kd.V_slice HO_20.out
                       subst eo153
                       go_wp2_with (first | ((with_reducible refine gate_callee (f := 18) rfl ?_); refine goesL_ (some 245) rfl rfl Tryd.func18 zk rfl #[.slice Ao152 t224.length co152, .slice Ao153 t227.length co153] rfl zm ?_; (with_reducible refine (saronref00_Equal.calls k4 _ _ t224 _ _ t227 false _ ?side1 ?side2 ?side3 ?side4 A134.out).mono ?_); (case side1 => repeat (first | exact (Kd.V_reads' HO_19.out).2.2 | (with_reducible refine Kd.C_alloc ?_ _) | (with_reducible refine Kd.C_drewN ?_ _) | (with_reducible refine Kd.C_drew ?_))); (case side2 => exact (Kd.V_reads' HO_19.out).2.1); (case side3 => repeat (first | exact (Kd.V_reads' HO_20.out).2.2 | (with_reducible refine Kd.C_alloc ?_ _) | (with_reducible refine Kd.C_drewN ?_ _) | (with_reducible refine Kd.C_drew ?_))); (case side4 => exact (Kd.V_reads' HO_20.out).2.1); rintro e w' ⟨rfl, ⟨nd, rfl⟩⟩; refine ⟨_, rfl, ?_⟩; obtain ⟨Ao154, co154, eo154⟩ := Kd.V_slice HO_17.out; subst eo154) | (go_at_call 18; (with_reducible refine (saronref00_Equal.calls k4 _ _ t220 _ _ t198 false _ ?side1 ?side2 ?side3 ?side4 A139.out).mono ?_); (case side1 => repeat (first | exact (Kd.V_reads' HO_17.out).2.2 | (with_reducible refine Kd.C_alloc ?_ _) | (with_reducible refine Kd.C_drewN ?_ _) | (with_reducible refine Kd.C_drew ?_))); (case side2 => exact (Kd.V_reads' HO_17.out).2.1); (case side3 => repeat (first | exact (Kd.R_reads' HO_11.out).2.2 | (with_reducible refine Kd.C_alloc ?_ _) | (with_reducible refine Kd.C_drewN ?_ _) | (with_reducible refine Kd.C_drew ?_))); (case side4 => exact (Kd.R_reads' HO_11.out).2.1); rintro e w' ⟨rfl, ⟨nd, rfl⟩⟩))
                       go_ret
                       exact ⟨zf, zb⟩
                    ·rw [if_neg c138] at H
                     have c138b0 : (t223 == 0) = false := beq_eq_false_iff_ne.mpr c138
                     have c138b1 : (t223 != 0) = true := bne_iff_ne.mpr c138
                     by_cases c155 : t223 = 63
                     ·rw [if_pos c155] at H
                      have c155b0 : (t223 == 63) = true := beq_iff_eq.mpr c155
                      have c155b1 : (t223 != 63) = false := bne_eq_false_iff_eq.mpr c155
                      clear c155
                      replace H := Option.bind_eq_some_iff.mp H
                      obtain ⟨t244, A1560, H⟩ := H
                      replace H : (some t244) = some r := H
                      have A156 := zh A1560
                      clear A1560
                      obtain rfl := Option.some.inj H
                      obtain ⟨Ao157, co157, eo157⟩ := Kd.V_slice HO_19.out
                      subst eo157
                      obtain ⟨Ao158, co158, eo158⟩ := Kd.V_slice HO_20.out
                      subst eo158
                      go_wp2_with (first | ((with_reducible refine gate_callee (f := 18) rfl ?_); refine goesL_ (some 245) rfl rfl Tryd.func18 zk rfl #[.slice Ao157 t224.length co157, .slice Ao158 t227.length co158] rfl zm ?_; (with_reducible refine (saronref00_Equal.calls k4 _ _ t224 _ _ t227 false _ ?side1 ?side2 ?side3 ?side4 A134.out).mono ?_); (case side1 => repeat (first | exact (Kd.V_reads' HO_19.out).2.2 | (with_reducible refine Kd.C_alloc ?_ _) | (with_reducible refine Kd.C_drewN ?_ _) | (with_reducible refine Kd.C_drew ?_))); (case side2 => exact (Kd.V_reads' HO_19.out).2.1); (case side3 => repeat (first | exact (Kd.V_reads' HO_20.out).2.2 | (with_reducible refine Kd.C_alloc ?_ _) | (with_reducible refine Kd.C_drewN ?_ _) | (with_reducible refine Kd.C_drew ?_))); (case side4 => exact (Kd.V_reads' HO_20.out).2.1); rintro e w' ⟨rfl, ⟨nd, rfl⟩⟩; refine ⟨_, rfl, ?_⟩) | (go_at_call 21; (with_reducible refine (saronlaw06_works.calls  t244 _ ?side1 A156.out).mono ?_); (case side1 => exact Glob.below HG.out zb); rintro e w159 ⟨rfl, hb⟩; have n0_ := zh (Kd.R_below (zR HO_11) hb); have n1_ := zh (Kd.V_below (zV HO_17) hb); have n2_ := zh (Kd.V_below (zV HO_19) hb); have n3_ := zh (Kd.V_below (zV HO_20) hb); have n4_ := zh (blk_below (g := gb188) (o := .cells #[.int .i64 a0_0, .int .i64 a0_1, .int .i64 a0_2, .slice A0_3 l0_3.length c0_3] 24 (0, 0)) (zc BK188) hb); have n5_ := zh (blk_below (g := gb189) (o := .cells #[.int .i64 a1_0, .int .i64 a1_1] 61 (0, 0)) (zc BK189) hb); have n6_ := zh (below_step zb hb); clear HO_11; clear HO_17; clear HO_19; clear HO_20; clear BK188; clear BK189; clear HB; have HO_11 := n0_; have HO_17 := n1_; have HO_19 := n2_; have HO_20 := n3_; have BK188 := n4_; have BK189 := n5_; have HB := n6_; clear n0_ n1_ n2_ n3_ n4_ n5_ n6_; (try clear hb); (try clear hb2); (try clear hk); (try clear hi)))
                      go_ret
                      exact ⟨zf, zb⟩
                     ·rw [if_neg c155] at H
                      have c155b0 : (t223 == 63) = false := beq_eq_false_iff_ne.mpr c155
                      have c155b1 : (t223 != 63) = true := bne_iff_ne.mpr c155
                      obtain rfl := Option.some.inj H
                      obtain ⟨Ao160, co160, eo160⟩ := Kd.V_slice HO_19.out
                      subst eo160
                      obtain ⟨Ao161, co161, eo161⟩ := Kd.V_slice HO_20.out
                      subst eo161
                      go_wp2_with (first | ((with_reducible refine gate_callee (f := 18) rfl ?_); refine goesL_ (some 245) rfl rfl Tryd.func18 zk rfl #[.slice Ao160 t224.length co160, .slice Ao161 t227.length co161] rfl zm ?_; (with_reducible refine (saronref00_Equal.calls k4 _ _ t224 _ _ t227 false _ ?side1 ?side2 ?side3 ?side4 A134.out).mono ?_); (case side1 => repeat (first | exact (Kd.V_reads' HO_19.out).2.2 | (with_reducible refine Kd.C_alloc ?_ _) | (with_reducible refine Kd.C_drewN ?_ _) | (with_reducible refine Kd.C_drew ?_))); (case side2 => exact (Kd.V_reads' HO_19.out).2.1); (case side3 => repeat (first | exact (Kd.V_reads' HO_20.out).2.2 | (with_reducible refine Kd.C_alloc ?_ _) | (with_reducible refine Kd.C_drewN ?_ _) | (with_reducible refine Kd.C_drew ?_))); (case side4 => exact (Kd.V_reads' HO_20.out).2.1); rintro e w' ⟨rfl, ⟨nd, rfl⟩⟩; refine ⟨_, rfl, ?_⟩))
                      go_ret
                      exact ⟨zf, zb⟩
 ·replace c6 := Bool.eq_false_iff.mpr c6
  subst c6
  have H1 : (if t193 = 60 then (if (t190.length : Int) = 0 then ((saronlaw06_works.f).bind fun t195 => (some t195)) else (some false)) else (some false)) = some r := by rw [if_neg (show ¬ (false = true) by decide)] at H; exact H
  clear H
  have H := H1
  clear H1
  by_cases c162 : t193 = 60
  ·rw [if_pos c162] at H
   have c162b0 : (t193 == 60) = true := beq_iff_eq.mpr c162
   have c162b1 : (t193 != 60) = false := bne_eq_false_iff_eq.mpr c162
   clear c162
   by_cases c163 : (t190.length : Int) = 0
   ·rw [if_pos c163] at H
    have c163b0 : ((t190.length : Int) == 0) = true := beq_iff_eq.mpr c163
    have c163b1 : ((t190.length : Int) != 0) = false := bne_eq_false_iff_eq.mpr c163
    clear c163
    replace H := Option.bind_eq_some_iff.mp H
    obtain ⟨t195, A1640, H⟩ := H
    replace H : (some t195) = some r := H
    have A164 := zh A1640
    clear A1640
    obtain rfl := Option.some.inj H
    go_enter Tryd.func8, Tryd.ntmps8
    go_wp2_with (first | ((with_reducible refine gate_dst (N := 3) rfl ?_); (try (refine gate_guard (by rfl) ?_; dsimp only)); refine box_event ?hg (N := 3) ?hd (cs := #[.int .i64 a0_0, .int .i64 a0_1, .int .i64 a0_2, .slice A0_3 l0_3.length c0_3]) (t := 24) ?hr ?_; (case hd => rfl); (case hg => rfl); (case hr => first | (go_simp; done) | (go_simp; rfl)); intro gb188 hg w165 hbox hb; have n0_ := zh (below_step zb hb); have n1_ := zh (hbox); have n2_ := zh ((by rw [hg]; exact (below_size zb) : w.heap.size ≤ gb188)); have n3_ := zh ((by rw [hg]; exact (below_size zb) : w.heap.size ≤ gb188)); clear HB; have HB := n0_; have BK188 := n1_; have GW188 := n2_; have GE188 := n3_; clear n0_ n1_ n2_ n3_; clear hb hbox hg) | ((with_reducible refine gate_dst (N := 4) rfl ?_); (try (refine gate_guard (by rfl) ?_; dsimp only)); refine box_event ?hg (N := 4) ?hd (cs := #[.int .i64 a1_0, .int .i64 a1_1]) (t := 61) ?hr ?_; (case hd => rfl); (case hg => rfl); (case hr => first | (go_simp; done) | (go_simp; rfl)); intro gb189 hg w166 hbox hb; have n0_ := zh (blk_below (g := gb188) (o := .cells #[.int .i64 a0_0, .int .i64 a0_1, .int .i64 a0_2, .slice A0_3 l0_3.length c0_3] 24 (0, 0)) (zc BK188) hb); have n1_ := zh (below_step zb hb); have n2_ := zh (hbox); have n3_ := zh ((by rw [hg]; exact (below_size zb) : w.heap.size ≤ gb189)); have n4_ := zh ((by rw [hg]; exact (below_size zb) : w.heap.size ≤ gb189)); have n5_ := zh ((by rw [hg]; exact Nat.ne_of_lt (blk_lt (g := gb188) (o := .cells #[.int .i64 a0_0, .int .i64 a0_1, .int .i64 a0_2, .slice A0_3 l0_3.length c0_3] 24 (0, 0)) (zc BK188)) : gb188 ≠ gb189)); have n6_ := zh ((by rw [hg]; exact Nat.ne_of_gt (blk_lt (g := gb188) (o := .cells #[.int .i64 a0_0, .int .i64 a0_1, .int .i64 a0_2, .slice A0_3 l0_3.length c0_3] 24 (0, 0)) (zc BK188)) : gb189 ≠ gb188)); clear BK188; clear HB; have BK188 := n0_; have HB := n1_; have BK189 := n2_; have GW189 := n3_; have GE189 := n4_; have NB188_189 := n5_; have NB189_188 := n6_; clear n0_ n1_ n2_ n3_ n4_ n5_ n6_; clear hb hbox hg; have hnb167 := NB188_189.out; have hnc167 := NB189_188.out; have hcz168_0 : w166.cell? ⟨gb188, 0, none⟩ = some (.int .i64 a0_0) := vb BK188 0; have hcz168_1 : w166.cell? ⟨gb188, 1, none⟩ = some (.int .i64 a0_1) := vb BK188 1; have hcz168_2 : w166.cell? ⟨gb188, 2, none⟩ = some (.int .i64 a0_2) := vb BK188 2; have hcz168_3 : w166.cell? ⟨gb188, 3, none⟩ = some (.slice A0_3 l0_3.length c0_3) := vb BK188 3; have hfz168_0 := blk_frozen BK188.out 0; have hfz168_1 := blk_frozen BK188.out 1; have hfz168_2 := blk_frozen BK188.out 2; have hfz168_3 := blk_frozen BK188.out 3) | ((with_reducible refine gate_callee (f := 33) rfl ?_); refine goesL_ (some 32) rfl rfl Tryd.func33 zk rfl #[.agg #[.int .i64 a0_0, .int .i64 a0_1, .int .i64 a0_2, .slice A0_3 l0_3.length c0_3]] rfl zm ?_; (with_reducible refine (kernel_Pairs.calls a0_0 a0_1 a0_2 _ _ l0_3 t190 t193 _ ?side1 ?side2 ?side3 A4.out).mono ?_); (case side1 => repeat (first | exact (Kd.C_below HR0_3.out HB.out) | (with_reducible refine Kd.C_alloc ?_ _) | (with_reducible refine Kd.C_drewN ?_ _) | (with_reducible refine Kd.C_drew ?_))); (case side2 => exact HC0_3.out); (case side3 => exact Glob.below HG.out zb); rintro e w169 ⟨v191, rfl, ho0, hb⟩; refine ⟨_, rfl, ?_⟩; have n0_ := zh (Kd.V_lower (Kd.V_mono (ok' := fun k_ => k_ ≠ gb188 ∧ k_ ≠ gb189) ho0 (fun k_ hk_ => ⟨(Kd.freshB (g := gb188) (o := .cells #[.int .i64 a0_0, .int .i64 a0_1, .int .i64 a0_2, .slice A0_3 l0_3.length c0_3] 24 (0, 0)) (zc BK188) k_ hk_), (Kd.freshB (g := gb189) (o := .cells #[.int .i64 a1_0, .int .i64 a1_1] 61 (0, 0)) (zc BK189) k_ hk_)⟩)) (below_size zb)); have n1_ := zh (blk_below (g := gb188) (o := .cells #[.int .i64 a0_0, .int .i64 a0_1, .int .i64 a0_2, .slice A0_3 l0_3.length c0_3] 24 (0, 0)) (zc BK188) hb); have n2_ := zh (blk_below (g := gb189) (o := .cells #[.int .i64 a1_0, .int .i64 a1_1] 61 (0, 0)) (zc BK189) hb); have n3_ := zh (below_step zb hb); clear BK188; clear BK189; clear HB; have HO192 := n0_; have BK188 := n1_; have BK189 := n2_; have HB := n3_; clear n0_ n1_ n2_ n3_; (try clear hb); (try clear hb2); (try clear hk); (try clear hi); (try clear ho0); have hcz170_0 : w169.cell? ⟨gb188, 0, none⟩ = some (.int .i64 a0_0) := vb BK188 0; have hcz170_1 : w169.cell? ⟨gb188, 1, none⟩ = some (.int .i64 a0_1) := vb BK188 1; have hcz170_2 : w169.cell? ⟨gb188, 2, none⟩ = some (.int .i64 a0_2) := vb BK188 2; have hcz170_3 : w169.cell? ⟨gb188, 3, none⟩ = some (.slice A0_3 l0_3.length c0_3) := vb BK188 3; have hfz170_0 := blk_frozen BK188.out 0; have hfz170_1 := blk_frozen BK188.out 1; have hfz170_2 := blk_frozen BK188.out 2; have hfz170_3 := blk_frozen BK188.out 3) | ((with_reducible refine gate_callee (f := 39) rfl ?_); refine goesL_ (some 36) rfl rfl Tryd.func39 zk rfl #[.agg #[.int .i64 a0_0, .int .i64 a0_1, .int .i64 a0_2, .slice A0_3 l0_3.length c0_3]] rfl zm ?_; (with_reducible refine (saronlaw06_sound.calls k a0_0 a0_1 a0_2 _ _ l0_3 false _ ?side1 ?side2 A5.out).mono ?_); (case side1 => repeat (first | exact (Kd.C_below HR0_3.out HB.out) | (with_reducible refine Kd.C_alloc ?_ _) | (with_reducible refine Kd.C_drewN ?_ _) | (with_reducible refine Kd.C_drew ?_))); (case side2 => exact HC0_3.out); rintro e w171 ⟨rfl, hb⟩; refine ⟨_, rfl, ?_⟩; have n0_ := zh (Kd.V_below (zV HO192) hb); have n1_ := zh (blk_below (g := gb188) (o := .cells #[.int .i64 a0_0, .int .i64 a0_1, .int .i64 a0_2, .slice A0_3 l0_3.length c0_3] 24 (0, 0)) (zc BK188) hb); have n2_ := zh (blk_below (g := gb189) (o := .cells #[.int .i64 a1_0, .int .i64 a1_1] 61 (0, 0)) (zc BK189) hb); have n3_ := zh (below_step zb hb); clear HO192; clear BK188; clear BK189; clear HB; have HO192 := n0_; have BK188 := n1_; have BK189 := n2_; have HB := n3_; clear n0_ n1_ n2_ n3_; (try clear hb); (try clear hb2); (try clear hk); (try clear hi); obtain ⟨Ao172, co172, eo172⟩ := Kd.V_slice HO192.out; subst eo172) | (go_at_call 21; (with_reducible refine (saronlaw06_works.calls  t195 _ ?side1 A164.out).mono ?_); (case side1 => exact Glob.below HG.out zb); rintro e w173 ⟨rfl, hb⟩; have n0_ := zh (Kd.V_below (zV HO192) hb); have n1_ := zh (blk_below (g := gb188) (o := .cells #[.int .i64 a0_0, .int .i64 a0_1, .int .i64 a0_2, .slice A0_3 l0_3.length c0_3] 24 (0, 0)) (zc BK188) hb); have n2_ := zh (blk_below (g := gb189) (o := .cells #[.int .i64 a1_0, .int .i64 a1_1] 61 (0, 0)) (zc BK189) hb); have n3_ := zh (below_step zb hb); clear HO192; clear BK188; clear BK189; clear HB; have HO192 := n0_; have BK188 := n1_; have BK189 := n2_; have HB := n3_; clear n0_ n1_ n2_ n3_; (try clear hb); (try clear hb2); (try clear hk); (try clear hi)))
    go_ret
    exact ⟨zf, zb⟩
   ·rw [if_neg c163] at H
    have c163b0 : ((t190.length : Int) == 0) = false := beq_eq_false_iff_ne.mpr c163
    have c163b1 : ((t190.length : Int) != 0) = true := bne_iff_ne.mpr c163
    have c163b2 : ¬ (t190 = []) := fun h_ => c163 (by rw [h_]; rfl)
    obtain rfl := Option.some.inj H
    go_enter Tryd.func8, Tryd.ntmps8
    go_wp2_with (first | ((with_reducible refine gate_dst (N := 3) rfl ?_); (try (refine gate_guard (by rfl) ?_; dsimp only)); refine box_event ?hg (N := 3) ?hd (cs := #[.int .i64 a0_0, .int .i64 a0_1, .int .i64 a0_2, .slice A0_3 l0_3.length c0_3]) (t := 24) ?hr ?_; (case hd => rfl); (case hg => rfl); (case hr => first | (go_simp; done) | (go_simp; rfl)); intro gb188 hg w174 hbox hb; have n0_ := zh (below_step zb hb); have n1_ := zh (hbox); have n2_ := zh ((by rw [hg]; exact (below_size zb) : w.heap.size ≤ gb188)); have n3_ := zh ((by rw [hg]; exact (below_size zb) : w.heap.size ≤ gb188)); clear HB; have HB := n0_; have BK188 := n1_; have GW188 := n2_; have GE188 := n3_; clear n0_ n1_ n2_ n3_; clear hb hbox hg) | ((with_reducible refine gate_dst (N := 4) rfl ?_); (try (refine gate_guard (by rfl) ?_; dsimp only)); refine box_event ?hg (N := 4) ?hd (cs := #[.int .i64 a1_0, .int .i64 a1_1]) (t := 61) ?hr ?_; (case hd => rfl); (case hg => rfl); (case hr => first | (go_simp; done) | (go_simp; rfl)); intro gb189 hg w175 hbox hb; have n0_ := zh (blk_below (g := gb188) (o := .cells #[.int .i64 a0_0, .int .i64 a0_1, .int .i64 a0_2, .slice A0_3 l0_3.length c0_3] 24 (0, 0)) (zc BK188) hb); have n1_ := zh (below_step zb hb); have n2_ := zh (hbox); have n3_ := zh ((by rw [hg]; exact (below_size zb) : w.heap.size ≤ gb189)); have n4_ := zh ((by rw [hg]; exact (below_size zb) : w.heap.size ≤ gb189)); have n5_ := zh ((by rw [hg]; exact Nat.ne_of_lt (blk_lt (g := gb188) (o := .cells #[.int .i64 a0_0, .int .i64 a0_1, .int .i64 a0_2, .slice A0_3 l0_3.length c0_3] 24 (0, 0)) (zc BK188)) : gb188 ≠ gb189)); have n6_ := zh ((by rw [hg]; exact Nat.ne_of_gt (blk_lt (g := gb188) (o := .cells #[.int .i64 a0_0, .int .i64 a0_1, .int .i64 a0_2, .slice A0_3 l0_3.length c0_3] 24 (0, 0)) (zc BK188)) : gb189 ≠ gb188)); clear BK188; clear HB; have BK188 := n0_; have HB := n1_; have BK189 := n2_; have GW189 := n3_; have GE189 := n4_; have NB188_189 := n5_; have NB189_188 := n6_; clear n0_ n1_ n2_ n3_ n4_ n5_ n6_; clear hb hbox hg; have hnb176 := NB188_189.out; have hnc176 := NB189_188.out; have hcz177_0 : w175.cell? ⟨gb188, 0, none⟩ = some (.int .i64 a0_0) := vb BK188 0; have hcz177_1 : w175.cell? ⟨gb188, 1, none⟩ = some (.int .i64 a0_1) := vb BK188 1; have hcz177_2 : w175.cell? ⟨gb188, 2, none⟩ = some (.int .i64 a0_2) := vb BK188 2; have hcz177_3 : w175.cell? ⟨gb188, 3, none⟩ = some (.slice A0_3 l0_3.length c0_3) := vb BK188 3; have hfz177_0 := blk_frozen BK188.out 0; have hfz177_1 := blk_frozen BK188.out 1; have hfz177_2 := blk_frozen BK188.out 2; have hfz177_3 := blk_frozen BK188.out 3) | ((with_reducible refine gate_callee (f := 33) rfl ?_); refine goesL_ (some 32) rfl rfl Tryd.func33 zk rfl #[.agg #[.int .i64 a0_0, .int .i64 a0_1, .int .i64 a0_2, .slice A0_3 l0_3.length c0_3]] rfl zm ?_; (with_reducible refine (kernel_Pairs.calls a0_0 a0_1 a0_2 _ _ l0_3 t190 t193 _ ?side1 ?side2 ?side3 A4.out).mono ?_); (case side1 => repeat (first | exact (Kd.C_below HR0_3.out HB.out) | (with_reducible refine Kd.C_alloc ?_ _) | (with_reducible refine Kd.C_drewN ?_ _) | (with_reducible refine Kd.C_drew ?_))); (case side2 => exact HC0_3.out); (case side3 => exact Glob.below HG.out zb); rintro e w178 ⟨v191, rfl, ho0, hb⟩; refine ⟨_, rfl, ?_⟩; have n0_ := zh (Kd.V_lower (Kd.V_mono (ok' := fun k_ => k_ ≠ gb188 ∧ k_ ≠ gb189) ho0 (fun k_ hk_ => ⟨(Kd.freshB (g := gb188) (o := .cells #[.int .i64 a0_0, .int .i64 a0_1, .int .i64 a0_2, .slice A0_3 l0_3.length c0_3] 24 (0, 0)) (zc BK188) k_ hk_), (Kd.freshB (g := gb189) (o := .cells #[.int .i64 a1_0, .int .i64 a1_1] 61 (0, 0)) (zc BK189) k_ hk_)⟩)) (below_size zb)); have n1_ := zh (blk_below (g := gb188) (o := .cells #[.int .i64 a0_0, .int .i64 a0_1, .int .i64 a0_2, .slice A0_3 l0_3.length c0_3] 24 (0, 0)) (zc BK188) hb); have n2_ := zh (blk_below (g := gb189) (o := .cells #[.int .i64 a1_0, .int .i64 a1_1] 61 (0, 0)) (zc BK189) hb); have n3_ := zh (below_step zb hb); clear BK188; clear BK189; clear HB; have HO192 := n0_; have BK188 := n1_; have BK189 := n2_; have HB := n3_; clear n0_ n1_ n2_ n3_; (try clear hb); (try clear hb2); (try clear hk); (try clear hi); (try clear ho0); have hcz179_0 : w178.cell? ⟨gb188, 0, none⟩ = some (.int .i64 a0_0) := vb BK188 0; have hcz179_1 : w178.cell? ⟨gb188, 1, none⟩ = some (.int .i64 a0_1) := vb BK188 1; have hcz179_2 : w178.cell? ⟨gb188, 2, none⟩ = some (.int .i64 a0_2) := vb BK188 2; have hcz179_3 : w178.cell? ⟨gb188, 3, none⟩ = some (.slice A0_3 l0_3.length c0_3) := vb BK188 3; have hfz179_0 := blk_frozen BK188.out 0; have hfz179_1 := blk_frozen BK188.out 1; have hfz179_2 := blk_frozen BK188.out 2; have hfz179_3 := blk_frozen BK188.out 3) | ((with_reducible refine gate_callee (f := 39) rfl ?_); refine goesL_ (some 36) rfl rfl Tryd.func39 zk rfl #[.agg #[.int .i64 a0_0, .int .i64 a0_1, .int .i64 a0_2, .slice A0_3 l0_3.length c0_3]] rfl zm ?_; (with_reducible refine (saronlaw06_sound.calls k a0_0 a0_1 a0_2 _ _ l0_3 false _ ?side1 ?side2 A5.out).mono ?_); (case side1 => repeat (first | exact (Kd.C_below HR0_3.out HB.out) | (with_reducible refine Kd.C_alloc ?_ _) | (with_reducible refine Kd.C_drewN ?_ _) | (with_reducible refine Kd.C_drew ?_))); (case side2 => exact HC0_3.out); rintro e w180 ⟨rfl, hb⟩; refine ⟨_, rfl, ?_⟩; have n0_ := zh (Kd.V_below (zV HO192) hb); have n1_ := zh (blk_below (g := gb188) (o := .cells #[.int .i64 a0_0, .int .i64 a0_1, .int .i64 a0_2, .slice A0_3 l0_3.length c0_3] 24 (0, 0)) (zc BK188) hb); have n2_ := zh (blk_below (g := gb189) (o := .cells #[.int .i64 a1_0, .int .i64 a1_1] 61 (0, 0)) (zc BK189) hb); have n3_ := zh (below_step zb hb); clear HO192; clear BK188; clear BK189; clear HB; have HO192 := n0_; have BK188 := n1_; have BK189 := n2_; have HB := n3_; clear n0_ n1_ n2_ n3_; (try clear hb); (try clear hb2); (try clear hk); (try clear hi); obtain ⟨Ao181, co181, eo181⟩ := Kd.V_slice HO192.out; subst eo181))
    go_ret
    exact ⟨zf, zb⟩
  ·rw [if_neg c162] at H
   have c162b0 : (t193 == 60) = false := beq_eq_false_iff_ne.mpr c162
   have c162b1 : (t193 != 60) = true := bne_iff_ne.mpr c162
   obtain rfl := Option.some.inj H
   go_enter Tryd.func8, Tryd.ntmps8
   go_wp2_with (first | ((with_reducible refine gate_dst (N := 3) rfl ?_); (try (refine gate_guard (by rfl) ?_; dsimp only)); refine box_event ?hg (N := 3) ?hd (cs := #[.int .i64 a0_0, .int .i64 a0_1, .int .i64 a0_2, .slice A0_3 l0_3.length c0_3]) (t := 24) ?hr ?_; (case hd => rfl); (case hg => rfl); (case hr => first | (go_simp; done) | (go_simp; rfl)); intro gb188 hg w182 hbox hb; have n0_ := zh (below_step zb hb); have n1_ := zh (hbox); have n2_ := zh ((by rw [hg]; exact (below_size zb) : w.heap.size ≤ gb188)); have n3_ := zh ((by rw [hg]; exact (below_size zb) : w.heap.size ≤ gb188)); clear HB; have HB := n0_; have BK188 := n1_; have GW188 := n2_; have GE188 := n3_; clear n0_ n1_ n2_ n3_; clear hb hbox hg) | ((with_reducible refine gate_dst (N := 4) rfl ?_); (try (refine gate_guard (by rfl) ?_; dsimp only)); refine box_event ?hg (N := 4) ?hd (cs := #[.int .i64 a1_0, .int .i64 a1_1]) (t := 61) ?hr ?_; (case hd => rfl); (case hg => rfl); (case hr => first | (go_simp; done) | (go_simp; rfl)); intro gb189 hg w183 hbox hb; have n0_ := zh (blk_below (g := gb188) (o := .cells #[.int .i64 a0_0, .int .i64 a0_1, .int .i64 a0_2, .slice A0_3 l0_3.length c0_3] 24 (0, 0)) (zc BK188) hb); have n1_ := zh (below_step zb hb); have n2_ := zh (hbox); have n3_ := zh ((by rw [hg]; exact (below_size zb) : w.heap.size ≤ gb189)); have n4_ := zh ((by rw [hg]; exact (below_size zb) : w.heap.size ≤ gb189)); have n5_ := zh ((by rw [hg]; exact Nat.ne_of_lt (blk_lt (g := gb188) (o := .cells #[.int .i64 a0_0, .int .i64 a0_1, .int .i64 a0_2, .slice A0_3 l0_3.length c0_3] 24 (0, 0)) (zc BK188)) : gb188 ≠ gb189)); have n6_ := zh ((by rw [hg]; exact Nat.ne_of_gt (blk_lt (g := gb188) (o := .cells #[.int .i64 a0_0, .int .i64 a0_1, .int .i64 a0_2, .slice A0_3 l0_3.length c0_3] 24 (0, 0)) (zc BK188)) : gb189 ≠ gb188)); clear BK188; clear HB; have BK188 := n0_; have HB := n1_; have BK189 := n2_; have GW189 := n3_; have GE189 := n4_; have NB188_189 := n5_; have NB189_188 := n6_; clear n0_ n1_ n2_ n3_ n4_ n5_ n6_; clear hb hbox hg; have hnb184 := NB188_189.out; have hnc184 := NB189_188.out; have hcz185_0 : w183.cell? ⟨gb188, 0, none⟩ = some (.int .i64 a0_0) := vb BK188 0; have hcz185_1 : w183.cell? ⟨gb188, 1, none⟩ = some (.int .i64 a0_1) := vb BK188 1; have hcz185_2 : w183.cell? ⟨gb188, 2, none⟩ = some (.int .i64 a0_2) := vb BK188 2; have hcz185_3 : w183.cell? ⟨gb188, 3, none⟩ = some (.slice A0_3 l0_3.length c0_3) := vb BK188 3; have hfz185_0 := blk_frozen BK188.out 0; have hfz185_1 := blk_frozen BK188.out 1; have hfz185_2 := blk_frozen BK188.out 2; have hfz185_3 := blk_frozen BK188.out 3) | ((with_reducible refine gate_callee (f := 33) rfl ?_); refine goesL_ (some 32) rfl rfl Tryd.func33 zk rfl #[.agg #[.int .i64 a0_0, .int .i64 a0_1, .int .i64 a0_2, .slice A0_3 l0_3.length c0_3]] rfl zm ?_; (with_reducible refine (kernel_Pairs.calls a0_0 a0_1 a0_2 _ _ l0_3 t190 t193 _ ?side1 ?side2 ?side3 A4.out).mono ?_); (case side1 => repeat (first | exact (Kd.C_below HR0_3.out HB.out) | (with_reducible refine Kd.C_alloc ?_ _) | (with_reducible refine Kd.C_drewN ?_ _) | (with_reducible refine Kd.C_drew ?_))); (case side2 => exact HC0_3.out); (case side3 => exact Glob.below HG.out zb); rintro e w186 ⟨v191, rfl, ho0, hb⟩; refine ⟨_, rfl, ?_⟩; have n0_ := zh (Kd.V_lower (Kd.V_mono (ok' := fun k_ => k_ ≠ gb188 ∧ k_ ≠ gb189) ho0 (fun k_ hk_ => ⟨(Kd.freshB (g := gb188) (o := .cells #[.int .i64 a0_0, .int .i64 a0_1, .int .i64 a0_2, .slice A0_3 l0_3.length c0_3] 24 (0, 0)) (zc BK188) k_ hk_), (Kd.freshB (g := gb189) (o := .cells #[.int .i64 a1_0, .int .i64 a1_1] 61 (0, 0)) (zc BK189) k_ hk_)⟩)) (below_size zb)); have n1_ := zh (blk_below (g := gb188) (o := .cells #[.int .i64 a0_0, .int .i64 a0_1, .int .i64 a0_2, .slice A0_3 l0_3.length c0_3] 24 (0, 0)) (zc BK188) hb); have n2_ := zh (blk_below (g := gb189) (o := .cells #[.int .i64 a1_0, .int .i64 a1_1] 61 (0, 0)) (zc BK189) hb); have n3_ := zh (below_step zb hb); clear BK188; clear BK189; clear HB; have HO192 := n0_; have BK188 := n1_; have BK189 := n2_; have HB := n3_; clear n0_ n1_ n2_ n3_; (try clear hb); (try clear hb2); (try clear hk); (try clear hi); (try clear ho0); have hcz187_0 : w186.cell? ⟨gb188, 0, none⟩ = some (.int .i64 a0_0) := vb BK188 0; have hcz187_1 : w186.cell? ⟨gb188, 1, none⟩ = some (.int .i64 a0_1) := vb BK188 1; have hcz187_2 : w186.cell? ⟨gb188, 2, none⟩ = some (.int .i64 a0_2) := vb BK188 2; have hcz187_3 : w186.cell? ⟨gb188, 3, none⟩ = some (.slice A0_3 l0_3.length c0_3) := vb BK188 3; have hfz187_0 := blk_frozen BK188.out 0; have hfz187_1 := blk_frozen BK188.out 1; have hfz187_2 := blk_frozen BK188.out 2; have hfz187_3 := blk_frozen BK188.out 3) | ((with_reducible refine gate_callee (f := 39) rfl ?_); refine goesL_ (some 36) rfl rfl Tryd.func39 zk rfl #[.agg #[.int .i64 a0_0, .int .i64 a0_1, .int .i64 a0_2, .slice A0_3 l0_3.length c0_3]] rfl zm ?_; (with_reducible refine (saronlaw06_sound.calls k a0_0 a0_1 a0_2 _ _ l0_3 false _ ?side1 ?side2 A5.out).mono ?_); (case side1 => repeat (first | exact (Kd.C_below HR0_3.out HB.out) | (with_reducible refine Kd.C_alloc ?_ _) | (with_reducible refine Kd.C_drewN ?_ _) | (with_reducible refine Kd.C_drew ?_))); (case side2 => exact HC0_3.out); rintro e w188 ⟨rfl, hb⟩; refine ⟨_, rfl, ?_⟩; have n0_ := zh (Kd.V_below (zV HO192) hb); have n1_ := zh (blk_below (g := gb188) (o := .cells #[.int .i64 a0_0, .int .i64 a0_1, .int .i64 a0_2, .slice A0_3 l0_3.length c0_3] 24 (0, 0)) (zc BK188) hb); have n2_ := zh (blk_below (g := gb189) (o := .cells #[.int .i64 a1_0, .int .i64 a1_1] 61 (0, 0)) (zc BK189) hb); have n3_ := zh (below_step zb hb); clear HO192; clear BK188; clear BK189; clear HB; have HO192 := n0_; have BK188 := n1_; have BK189 := n2_; have HB := n3_; clear n0_ n1_ n2_ n3_; (try clear hb); (try clear hb2); (try clear hk); (try clear hi)))
   go_ret
   exact ⟨zf, zb⟩
end Go.Proofs.YtagkfkdoibnhfaaDoor.H
end
section
namespace Go.Proofs.YtagkfkdoibnhfaaDoor.kernelBack
open Go.ChangeShapes Go.WideShapes Go.ChangeAt Go.RowKit Go.Proofs.YtagkfkdoibnhfaaDoorW.PrintWords Go.Proofs.YtagkfkdoibnhfaaDoor.H Go.Proofs.YtagkfkdoibnhfaaDoor.K
set_option linter.unusedVariables false
theorem own : ownKnob Tryd.prog.godebug = none := by kernel_rfl
theorem laidOut : laidOutB Tryd.prog = true := by kernel_rfl
theorem door_met (os : Os) (args : Array Value) : laidMetH Tryd.prog laid1 ((World.doorLaid Tryd.prog 600 os).forCall (fun _ _ => 0) ⟨#[], args, []⟩).memory :=
 laidMetH_of_parts3 (fuel := 8) (laidMet_of_run' 8 zk zk) zk zk
set_option maxRecDepth 100000 in
set_option maxHeartbeats 2000000 in
theorem lifted (os : Os) (started : os.Started) (H : Type) (enc : TypeId × Value → H) :
  ReturnsInHanded {} Tryd.checked os 8 .any (fun w args => (Rows.kernelBackSpec.pre enc Tryd.prog Tryd.f8 [] false w args ∧ laidMetH Tryd.prog laid1 w) ∧ sizedMet enc Tryd.prog Tryd.f8 (OpenSpec.ofChange Rows.kernelBackSpec) false w args)
   (Rows.kernelBackSpec.post enc Tryd.prog Tryd.f8 false true false false) := by
 refine returnsInHanded_of_change_and (C := Tryd.checked) (X := fun w _ => laidMetH Tryd.prog laid1 w) (fun _ _ _ hh h => h.of_heap hh) own started zk Tryd.func8
  (ChangeSpec.witness_shaped (enc := enc) (C := Tryd.checked) (os := os) (X := fun w _ => laidMetH Tryd.prog laid1 w) false (World.doorLaid Tryd.prog 600 os) #[.agg #[.int .i64 0, .int .i64 0, .int .i64 0, .slice none 0 0], .agg #[.int .i64 0, .int .i64 0], .slice none 0 0] 8 rfl (World.shaped_of_RefB zk zk) zk zk zk (door_met os _)) ?_
 intro W base args ds gs before hval0 hW _ _ hL _
 have hval : ∀ (j : Nat) t v, Tryd.f8.params[j]? = some t → args[j]? = some v → Value.okWide Tryd.prog W .any base t v := hval0
 have hW' := hW
 obtain ⟨p, q, hA0, hV, rfl, hfz, hnd⟩ := hW
 have hA : DataW.TrodAll enc Tryd.prog W 0 (fun _ => true) true Tryd.f8.params.toList args.toList ds p := hA0
 rw [Tryd.params8] at hA hval
 obtain ⟨v0, vs0, d0, ds0, p0, q0, hargs, rfl, rfl, h0, r0⟩ := trodAll_cons hA
 obtain ⟨v1, vs1, d1, ds1, p1, q1, rfl, rfl, rfl, h1, r1⟩ := trodAll_cons r0
 obtain ⟨v2, vs2, d2, ds2, p2, q2, rfl, rfl, rfl, h2, r2⟩ := trodAll_cons r1
 obtain ⟨rfl, rfl, rfl⟩ := trodAll_nil r2
 obtain rfl : args = #[v0, v1, v2] := by cases args; simp_all
 obtain ⟨rfl, rfl⟩ := trodVars_none hV
 have k0 := h0
 have lt0 : ∀ x ∈ p0, x.block < W.heap.size := by obtain ⟨m, hm⟩ := k0; exact DataW.trod_lt m _ _ _ hm
 obtain ⟨T0, O0, L0, A0, R0, c0, rfl, hc0, hC0, iT0, iO0, iL0, sR0, iR0⟩ := arg_scale (hval 0 24 v0 rfl rfl) h0
 have k1 := h1
 have lt1 : ∀ x ∈ p1, x.block < W.heap.size := by obtain ⟨m, hm⟩ := k1; exact DataW.trod_lt m _ _ _ hm
 obtain ⟨x1, y1, rfl, ix1, iy1⟩ := arg_two (hval 1 61 v1 rfl rfl) h1
 have k2 := h2
 have lt2 : ∀ x ∈ p2, x.block < W.heap.size := by obtain ⟨m, hm⟩ := k2; exact DataW.trod_lt m _ _ _ hm
 obtain ⟨A2, l2, c2, rfl, hc2, hC2, s2, i2⟩ := arg_ints (hval 2 25 v2 rfl rfl) h2
 clear hA0 hval0
 have hG := glob_of_laid hL
 refine (saronlaw06_KernelBack.calls (2 * R0.length + 3000) T0 O0 L0 A0 c0 R0 x1 y1 A2 c2 l2 true W hC0 hc0 hC2 hc2 hG (K.O.back_law T0 O0 L0 R0 x1 y1 l2 sR0 s2 _ (Nat.le_refl _))).mono fun e W' ⟨he, bel⟩ => ?_
 subst he
 exact ⟨_, rfl, _, _, _, [], _, [], hW', trodAll_mk1 (shut_bool Tryd.underlying4 _), (trodAll_cons_mk (Below.trod laidOut zk (of_decide_eq_true zk) k0 bel lt0) (trodAll_cons_mk (Below.trod laidOut zk (of_decide_eq_true zk) k1 bel lt1) (trodAll_cons_mk (Below.trod laidOut zk (of_decide_eq_true zk) k2 bel lt2) trodAll_mk0))), rfl, bel.frame _, fun h => by cases h⟩
theorem over : Rows.kernelBackRow.holds Tryd.pinned (OpenSpec.ofChange Rows.kernelBackSpec) :=
 OpenClaim.holds_of_wide 8 Tryd.f8 rfl rfl rfl rfl rfl rfl rfl ⟨rfl, rfl, rfl, rfl, rfl⟩ rfl rfl rfl rfl rfl zk Tryd.func8 zk
  (of_decide_eq_true zk) (by unfold Func.isWrapper; first | (rw [if_pos (by decide +kernel)]; kernel_rfl) | (rw [if_neg (by decide +kernel)]; exact ⟨rfl, rfl⟩))
  (fun os started H enc _ => lifted os started H enc)
theorem proved : Rows.KernelBackCardSaid :=
 Claim7.holds_tied_plain_at .later [] [.funcs] true (true, "1546f209dbcbef264cbb20aea537f6d5569935ba401e115858a8843598e79524") false
  over (fun _ h => by cases h) zk (fun _ h => by cases h) kernelBack_row_tie rfl ⟨rfl, rfl⟩ zk rfl
  (fun f fn hf hfn => by
   obtain rfl : f = 8 := Option.some.inj ((show Tryd.prog.funcNamed "saron/saronlaw06.KernelBack" = some 8 by kernel_rfl).symm.trans hf) |>.symm
   obtain rfl : fn = Tryd.f8 := (Option.some.inj (Tryd.func8.symm.trans hfn)).symm
   exact ⟨by kernel_rfl, fun j t ht => by
    rw [Tryd.params8] at ht
    have hm : t ∈ [24, 61, 25] := by simpa using Array.mem_of_getElem? ht
    have hall : ([24, 61, 25].all fun u => !Tryd.prog.wantsStandIn u) = true := by kernel_rfl
    exact (show Tryd.prog.wantsStandIn t = false by simpa using List.all_eq_true.1 hall t hm)⟩)
  zk
end Go.Proofs.YtagkfkdoibnhfaaDoor.kernelBack
namespace Go.Proofs.YtagkfkdoibnhfaaDoor
theorem kernelBack_card : Rows.KernelBackCardSaid := kernelBack.proved
end Go.Proofs.YtagkfkdoibnhfaaDoor
end
