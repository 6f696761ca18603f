/- Texts of this seat, joined (pruned by a program of this session to what the claim comes to). -/
import Derived.Test.YtgehkojccmkggaaDoorZB1
import Derived.Test.YtgehkojccmkggaaDoorZB2
import Derived.Test.YtgehkojccmkggaaDoorZB5
set_option linter.all false
section
namespace Go.Proofs.YtgehkojccmkggaaDoor.H
open Go.RowKit Go.Proofs.YtgehkojccmkggaaDoorW.PrintWords Go.Proofs.YtgehkojccmkggaaDoorW.PrintLast Go.Proofs.YtgehkojccmkggaaDoorW.PrintMore
attribute [local go_sem] max2_int min2_int max_two min_two max_three min_three max_four min_four   -- for this text's walks alone
set_option linter.unusedVariables false
set_option linter.unusedSimpArgs false
open Go.Proofs.YtgehkojccmkggaaDoor.K
mutual
def saronlaw01_sound.j0 : Nat → Int → Bool → List (S26) → List (S61) → List (S48) → Int → Int → Option (Bool)
 | 0, _, _, _, _, _, _, _ => none
 | k + 1, x3, x4, x376000, x376001, x376002, x376003, x376004 => saronlaw01_sound.l0 k x3 x4 0 x376000 x376001 x376002 x376003 x376004
def saronlaw01_sound.j2 : Nat → Int → Bool → List (S26) → List (S61) → List (S48) → Int → Int → Option (Bool)
 | 0, _, _, _, _, _, _, _ => none
 | k + 1, x3, x4, x376000, x376001, x376002, x376003, x376004 => saronlaw01_sound.l1 k x3 x4 0 x376000 x376001 x376002 x376003 x376004
def saronlaw01_sound.l1 : Nat → Int → Bool → Int → List (S26) → List (S61) → List (S48) → Int → Int → Option (Bool)
 | 0, _, _, _, _, _, _, _, _ => none
 | k + 1, x3, x4, x6, x376000, x376001, x376002, x376003, x376004 => if x4 = true then (saronlaw01_sound.j4 k x3 x4 x6 (decide (x6 < (x376001.length : Int))) x376000 x376001 x376002 x376003 x376004) else (saronlaw01_sound.j4 k x3 x4 x6 false x376000 x376001 x376002 x376003 x376004)
def saronlaw01_sound.j4 : Nat → Int → Bool → Int → Bool → List (S26) → List (S61) → List (S48) → Int → Int → Option (Bool)
 | 0, _, _, _, _, _, _, _, _, _ => none
 | k + 1, x3, x4, x6, x74, x376000, x376001, x376002, x376003, x376004 => if x74 = true then (if 0 ≤ x6 then (if x6 < (x376001.length : Int) then (if (((rd_T61 x376001 x6).f0).length : Int) ≤ x3 then (saronlaw01_sound.j5 k x3 ((wrap64 ((((rd_T61 x376001 x6).f1).length : Int) + 1)) == (((rd_T61 x376001 x6).f0).length : Int)) x6 x376000 x376001 x376002 x376003 x376004 ((rd_T61 x376001 x6).f0) ((rd_T61 x376001 x6).f1)) else (saronlaw01_sound.j5 k x3 false x6 x376000 x376001 x376002 x376003 x376004 ((rd_T61 x376001 x6).f0) ((rd_T61 x376001 x6).f1))) else (none)) else (none)) else (saronlaw01_sound.l3 k x3 x4 0 x376000 x376001 x376002 x376003 x376004)
def saronlaw01_sound.j5 : Nat → Int → Bool → Int → List (S26) → List (S61) → List (S48) → Int → Int → List Int → List (S26) → Option (Bool)
 | 0, _, _, _, _, _, _, _, _, _, _ => none
 | k + 1, x3, x4, x6, x376000, x376001, x376002, x376003, x376004, x385000, x385001 => saronlaw01_sound.l2 k x3 x4 x6 0 x376000 x376001 x376002 x376003 x376004 x385000 x385001
def saronlaw01_sound.l2 : Nat → Int → Bool → Int → Int → List (S26) → List (S61) → List (S48) → Int → Int → List Int → List (S26) → Option (Bool)
 | 0, _, _, _, _, _, _, _, _, _, _, _ => none
 | k + 1, x3, x4, x6, x8, x376000, x376001, x376002, x376003, x376004, x385000, x385001 => if x4 = true then (saronlaw01_sound.j7 k x3 x4 x6 x8 (decide (x8 < (x385000.length : Int))) x376000 x376001 x376002 x376003 x376004 x385000 x385001) else (saronlaw01_sound.j7 k x3 x4 x6 x8 false x376000 x376001 x376002 x376003 x376004 x385000 x385001)
def saronlaw01_sound.j7 : Nat → Int → Bool → Int → Int → Bool → List (S26) → List (S61) → List (S48) → Int → Int → List Int → List (S26) → Option (Bool)
 | 0, _, _, _, _, _, _, _, _, _, _, _, _ => none
 | k + 1, x3, x4, x6, x8, x104, x376000, x376001, x376002, x376003, x376004, x385000, x385001 => if x104 = true then (if 0 ≤ x8 then (if x8 < (x385000.length : Int) then ((saronref00_Sits.f (rd x385000 x8) 0 (wrap64 (x3 - 1))).bind fun t386 => (if t386 = true then (if x8 = 0 then (saronlaw01_sound.l2 k x3 true x6 (wrap64 (x8 + 1)) x376000 x376001 x376002 x376003 x376004 x385000 x385001) else (if 0 ≤ (wrap64 (x8 - 1)) then (if (wrap64 (x8 - 1)) < (x385001.length : Int) then ((saronref00_Good.f ((rd_T26 x385001 (wrap64 (x8 - 1))).f0) ((rd_T26 x385001 (wrap64 (x8 - 1))).f1) 1 5000).bind fun t388 => (saronlaw01_sound.l2 k x3 t388 x6 (wrap64 (x8 + 1)) x376000 x376001 x376002 x376003 x376004 x385000 x385001)) else (none)) else (none))) else (saronlaw01_sound.l2 k x3 false x6 (wrap64 (x8 + 1)) x376000 x376001 x376002 x376003 x376004 x385000 x385001))) else (none)) else (none)) else (saronlaw01_sound.l1 k x3 x4 (wrap64 (x6 + 1)) x376000 x376001 x376002 x376003 x376004)
def saronlaw01_sound.l3 : Nat → Int → Bool → Int → List (S26) → List (S61) → List (S48) → Int → Int → Option (Bool)
 | 0, _, _, _, _, _, _, _, _ => none
 | k + 1, x3, x4, x9, x376000, x376001, x376002, x376003, x376004 => if x4 = true then (saronlaw01_sound.j9 k x3 x4 x9 (decide (x9 < (x376002.length : Int))) x376000 x376001 x376002 x376003 x376004) else (saronlaw01_sound.j9 k x3 x4 x9 false x376000 x376001 x376002 x376003 x376004)
def saronlaw01_sound.j9 : Nat → Int → Bool → Int → Bool → List (S26) → List (S61) → List (S48) → Int → Int → Option (Bool)
 | 0, _, _, _, _, _, _, _, _, _ => none
 | k + 1, x3, x4, x9, x135, x376000, x376001, x376002, x376003, x376004 => if x135 = true then (if 0 ≤ x9 then (if x9 < (x376002.length : Int) then ((saronref00_Sits.f ((rd_T48 x376002 x9).f0) 0 (wrap64 (x3 - 1))).bind fun t390 => (if t390 = true then ((saronref00_Sits.f ((rd_T48 x376002 x9).f1) 0 (wrap64 (x3 - 1))).bind fun t392 => (saronlaw01_sound.l3 k x3 t392 (wrap64 (x9 + 1)) x376000 x376001 x376002 x376003 x376004)) else (saronlaw01_sound.l3 k x3 false (wrap64 (x9 + 1)) x376000 x376001 x376002 x376003 x376004))) else (none)) else (none)) else (some x4)
def saronlaw01_sound.l0 : Nat → Int → Bool → Int → List (S26) → List (S61) → List (S48) → Int → Int → Option (Bool)
 | 0, _, _, _, _, _, _, _, _ => none
 | k + 1, x3, x4, x5, x376000, x376001, x376002, x376003, x376004 => if x4 = true then (if x5 < x3 then (if 0 ≤ x5 then (if x5 < (x376000.length : Int) then ((saronref00_Good.f ((rd_T26 x376000 x5).f0) ((rd_T26 x376000 x5).f1) 1 4000).bind fun t380 => (if t380 = true then (saronlaw01_sound.l0 k x3 (decide ((wrap64 (((rd_T26 x376000 x5).f1) - ((rd_T26 x376000 x5).f0))) ≤ 40)) (wrap64 (x5 + 1)) x376000 x376001 x376002 x376003 x376004) else (saronlaw01_sound.l0 k x3 false (wrap64 (x5 + 1)) x376000 x376001 x376002 x376003 x376004))) else (none)) else (none)) else (saronlaw01_sound.j2 k x3 x4 x376000 x376001 x376002 x376003 x376004)) else (saronlaw01_sound.j2 k x3 x4 x376000 x376001 x376002 x376003 x376004)
end
def saronlaw01_sound.f (k : Nat) (l0_0 : List (S26)) (l0_1 : List (S61)) (l0_2 : List (S48)) (a0_3 : Int) (a0_4 : Int) : Option (Bool) := (tune_Check.f l0_0 l0_1 l0_2 a0_3 a0_4).bind fun t376 => (if t376 = 0 then ((saronref00_Sits.f (l0_0.length : Int) 1 8).bind fun t377 => (if t377 = true then (if (l0_1.length : Int) ≤ 2 then (if (l0_2.length : Int) ≤ 4 then ((saronref00_Good.f a0_3 a0_4 0 60).bind fun t378 => (saronlaw01_sound.j0 k (l0_0.length : Int) t378 l0_0 l0_1 l0_2 a0_3 a0_4)) else (saronlaw01_sound.j0 k (l0_0.length : Int) false l0_0 l0_1 l0_2 a0_3 a0_4)) else (saronlaw01_sound.j0 k (l0_0.length : Int) false l0_0 l0_1 l0_2 a0_3 a0_4)) else (saronlaw01_sound.j0 k (l0_0.length : Int) false l0_0 l0_1 l0_2 a0_3 a0_4))) else (saronlaw01_sound.j0 k (l0_0.length : Int) false l0_0 l0_1 l0_2 a0_3 a0_4))
theorem saronlaw01_sound.mono_l : ∀ k, (∀ y0 y1 y2 y3 y4 y5 y6, LeO (saronlaw01_sound.j0 k y0 y1 y2 y3 y4 y5 y6) (saronlaw01_sound.j0 (k + 1) y0 y1 y2 y3 y4 y5 y6)) ∧ (∀ y0 y1 y2 y3 y4 y5 y6, LeO (saronlaw01_sound.j2 k y0 y1 y2 y3 y4 y5 y6) (saronlaw01_sound.j2 (k + 1) y0 y1 y2 y3 y4 y5 y6)) ∧ (∀ y0 y1 y2 y3 y4 y5 y6 y7, LeO (saronlaw01_sound.l1 k y0 y1 y2 y3 y4 y5 y6 y7) (saronlaw01_sound.l1 (k + 1) y0 y1 y2 y3 y4 y5 y6 y7)) ∧ (∀ y0 y1 y2 y3 y4 y5 y6 y7 y8, LeO (saronlaw01_sound.j4 k y0 y1 y2 y3 y4 y5 y6 y7 y8) (saronlaw01_sound.j4 (k + 1) y0 y1 y2 y3 y4 y5 y6 y7 y8)) ∧ (∀ y0 y1 y2 y3 y4 y5 y6 y7 y8 y9, LeO (saronlaw01_sound.j5 k y0 y1 y2 y3 y4 y5 y6 y7 y8 y9) (saronlaw01_sound.j5 (k + 1) y0 y1 y2 y3 y4 y5 y6 y7 y8 y9)) ∧ (∀ y0 y1 y2 y3 y4 y5 y6 y7 y8 y9 y10, LeO (saronlaw01_sound.l2 k y0 y1 y2 y3 y4 y5 y6 y7 y8 y9 y10) (saronlaw01_sound.l2 (k + 1) y0 y1 y2 y3 y4 y5 y6 y7 y8 y9 y10)) ∧ (∀ y0 y1 y2 y3 y4 y5 y6 y7 y8 y9 y10 y11, LeO (saronlaw01_sound.j7 k y0 y1 y2 y3 y4 y5 y6 y7 y8 y9 y10 y11) (saronlaw01_sound.j7 (k + 1) y0 y1 y2 y3 y4 y5 y6 y7 y8 y9 y10 y11)) ∧ (∀ y0 y1 y2 y3 y4 y5 y6 y7, LeO (saronlaw01_sound.l3 k y0 y1 y2 y3 y4 y5 y6 y7) (saronlaw01_sound.l3 (k + 1) y0 y1 y2 y3 y4 y5 y6 y7)) ∧ (∀ y0 y1 y2 y3 y4 y5 y6 y7 y8, LeO (saronlaw01_sound.j9 k y0 y1 y2 y3 y4 y5 y6 y7 y8) (saronlaw01_sound.j9 (k + 1) y0 y1 y2 y3 y4 y5 y6 y7 y8)) ∧ (∀ y0 y1 y2 y3 y4 y5 y6 y7, LeO (saronlaw01_sound.l0 k y0 y1 y2 y3 y4 y5 y6 y7) (saronlaw01_sound.l0 (k + 1) y0 y1 y2 y3 y4 y5 y6 y7))
 | 0 => ⟨fun _ _ _ _ _ _ _ r h => by simp [saronlaw01_sound.j0] at h, fun _ _ _ _ _ _ _ r h => by simp [saronlaw01_sound.j2] at h, fun _ _ _ _ _ _ _ _ r h => by simp [saronlaw01_sound.l1] at h, fun _ _ _ _ _ _ _ _ _ r h => by simp [saronlaw01_sound.j4] at h, fun _ _ _ _ _ _ _ _ _ _ r h => by simp [saronlaw01_sound.j5] at h, fun _ _ _ _ _ _ _ _ _ _ _ r h => by simp [saronlaw01_sound.l2] at h, fun _ _ _ _ _ _ _ _ _ _ _ _ r h => by simp [saronlaw01_sound.j7] at h, fun _ _ _ _ _ _ _ _ r h => by simp [saronlaw01_sound.l3] at h, fun _ _ _ _ _ _ _ _ _ r h => by simp [saronlaw01_sound.j9] at h, fun _ _ _ _ _ _ _ _ r h => by simp [saronlaw01_sound.l0] at h⟩
 | k + 1 => by
  obtain ⟨ih0, ih1, ih2, ih3, ih4, ih5, ih6, ih7, ih8, ih9⟩ := saronlaw01_sound.mono_l k
  refine ⟨?_, ?_, ?_, ?_, ?_, ?_, ?_, ?_, ?_, ?_⟩
  ·intro y0 y1 y2 y3 y4 y5 y6
   unfold saronlaw01_sound.j0
   repeat' first
   | (with_reducible exact ih0 _ _ _ _ _ _ _)
   | (with_reducible exact ih1 _ _ _ _ _ _ _)
   | (with_reducible exact ih2 _ _ _ _ _ _ _ _)
   | (with_reducible exact ih3 _ _ _ _ _ _ _ _ _)
   | (with_reducible exact ih4 _ _ _ _ _ _ _ _ _ _)
   | (with_reducible exact ih5 _ _ _ _ _ _ _ _ _ _ _)
   | (with_reducible exact ih6 _ _ _ _ _ _ _ _ _ _ _ _)
   | (with_reducible exact ih7 _ _ _ _ _ _ _ _)
   | (with_reducible exact ih8 _ _ _ _ _ _ _ _ _)
   | (with_reducible exact ih9 _ _ _ _ _ _ _ _)
   | (with_reducible exact LeO.refl _)
   | (with_reducible exact LeO.none _)
   | (with_reducible refine LeO.ite ?_ ?_)
   | (with_reducible refine LeO.bind ?_ (fun _ => ?_))
   | exact ih0 _ _ _ _ _ _ _
   | exact ih1 _ _ _ _ _ _ _
   | exact ih2 _ _ _ _ _ _ _ _
   | exact ih3 _ _ _ _ _ _ _ _ _
   | exact ih4 _ _ _ _ _ _ _ _ _ _
   | exact ih5 _ _ _ _ _ _ _ _ _ _ _
   | exact ih6 _ _ _ _ _ _ _ _ _ _ _ _
   | exact ih7 _ _ _ _ _ _ _ _
   | exact ih8 _ _ _ _ _ _ _ _ _
   | exact ih9 _ _ _ _ _ _ _ _
   | exact LeO.none _
   | refine LeO.ite ?_ ?_
   | refine LeO.bind ?_ (fun _ => ?_)
  ·intro y0 y1 y2 y3 y4 y5 y6
   unfold saronlaw01_sound.j2
   repeat' first
   | (with_reducible exact ih0 _ _ _ _ _ _ _)
   | (with_reducible exact ih1 _ _ _ _ _ _ _)
   | (with_reducible exact ih2 _ _ _ _ _ _ _ _)
   | (with_reducible exact ih3 _ _ _ _ _ _ _ _ _)
   | (with_reducible exact ih4 _ _ _ _ _ _ _ _ _ _)
   | (with_reducible exact ih5 _ _ _ _ _ _ _ _ _ _ _)
   | (with_reducible exact ih6 _ _ _ _ _ _ _ _ _ _ _ _)
   | (with_reducible exact ih7 _ _ _ _ _ _ _ _)
   | (with_reducible exact ih8 _ _ _ _ _ _ _ _ _)
   | (with_reducible exact ih9 _ _ _ _ _ _ _ _)
   | (with_reducible exact LeO.refl _)
   | (with_reducible exact LeO.none _)
   | (with_reducible refine LeO.ite ?_ ?_)
   | (with_reducible refine LeO.bind ?_ (fun _ => ?_))
   | exact ih0 _ _ _ _ _ _ _
   | exact ih1 _ _ _ _ _ _ _
   | exact ih2 _ _ _ _ _ _ _ _
   | exact ih3 _ _ _ _ _ _ _ _ _
   | exact ih4 _ _ _ _ _ _ _ _ _ _
   | exact ih5 _ _ _ _ _ _ _ _ _ _ _
   | exact ih6 _ _ _ _ _ _ _ _ _ _ _ _
   | exact ih7 _ _ _ _ _ _ _ _
   | exact ih8 _ _ _ _ _ _ _ _ _
   | exact ih9 _ _ _ _ _ _ _ _
   | exact LeO.none _
   | refine LeO.ite ?_ ?_
   | refine LeO.bind ?_ (fun _ => ?_)
  ·intro y0 y1 y2 y3 y4 y5 y6 y7
   unfold saronlaw01_sound.l1
   repeat' first
   | (with_reducible exact ih0 _ _ _ _ _ _ _)
   | (with_reducible exact ih1 _ _ _ _ _ _ _)
   | (with_reducible exact ih2 _ _ _ _ _ _ _ _)
   | (with_reducible exact ih3 _ _ _ _ _ _ _ _ _)
   | (with_reducible exact ih4 _ _ _ _ _ _ _ _ _ _)
   | (with_reducible exact ih5 _ _ _ _ _ _ _ _ _ _ _)
   | (with_reducible exact ih6 _ _ _ _ _ _ _ _ _ _ _ _)
   | (with_reducible exact ih7 _ _ _ _ _ _ _ _)
   | (with_reducible exact ih8 _ _ _ _ _ _ _ _ _)
   | (with_reducible exact ih9 _ _ _ _ _ _ _ _)
   | (with_reducible exact LeO.refl _)
   | (with_reducible exact LeO.none _)
   | (with_reducible refine LeO.ite ?_ ?_)
   | (with_reducible refine LeO.bind ?_ (fun _ => ?_))
   | exact ih0 _ _ _ _ _ _ _
   | exact ih1 _ _ _ _ _ _ _
   | exact ih2 _ _ _ _ _ _ _ _
   | exact ih3 _ _ _ _ _ _ _ _ _
   | exact ih4 _ _ _ _ _ _ _ _ _ _
   | exact ih5 _ _ _ _ _ _ _ _ _ _ _
   | exact ih6 _ _ _ _ _ _ _ _ _ _ _ _
   | exact ih7 _ _ _ _ _ _ _ _
   | exact ih8 _ _ _ _ _ _ _ _ _
   | exact ih9 _ _ _ _ _ _ _ _
   | exact LeO.none _
   | refine LeO.ite ?_ ?_
   | refine LeO.bind ?_ (fun _ => ?_)
  ·intro y0 y1 y2 y3 y4 y5 y6 y7 y8
   unfold saronlaw01_sound.j4
   repeat' first
   | (with_reducible exact ih0 _ _ _ _ _ _ _)
   | (with_reducible exact ih1 _ _ _ _ _ _ _)
   | (with_reducible exact ih2 _ _ _ _ _ _ _ _)
   | (with_reducible exact ih3 _ _ _ _ _ _ _ _ _)
   | (with_reducible exact ih4 _ _ _ _ _ _ _ _ _ _)
   | (with_reducible exact ih5 _ _ _ _ _ _ _ _ _ _ _)
   | (with_reducible exact ih6 _ _ _ _ _ _ _ _ _ _ _ _)
   | (with_reducible exact ih7 _ _ _ _ _ _ _ _)
   | (with_reducible exact ih8 _ _ _ _ _ _ _ _ _)
   | (with_reducible exact ih9 _ _ _ _ _ _ _ _)
   | (with_reducible exact LeO.refl _)
   | (with_reducible exact LeO.none _)
   | (with_reducible refine LeO.ite ?_ ?_)
   | (with_reducible refine LeO.bind ?_ (fun _ => ?_))
   | exact ih0 _ _ _ _ _ _ _
   | exact ih1 _ _ _ _ _ _ _
   | exact ih2 _ _ _ _ _ _ _ _
   | exact ih3 _ _ _ _ _ _ _ _ _
   | exact ih4 _ _ _ _ _ _ _ _ _ _
   | exact ih5 _ _ _ _ _ _ _ _ _ _ _
   | exact ih6 _ _ _ _ _ _ _ _ _ _ _ _
   | exact ih7 _ _ _ _ _ _ _ _
   | exact ih8 _ _ _ _ _ _ _ _ _
   | exact ih9 _ _ _ _ _ _ _ _
   | exact LeO.none _
   | refine LeO.ite ?_ ?_
   | refine LeO.bind ?_ (fun _ => ?_)
  ·intro y0 y1 y2 y3 y4 y5 y6 y7 y8 y9
   unfold saronlaw01_sound.j5
   repeat' first
   | (with_reducible exact ih0 _ _ _ _ _ _ _)
   | (with_reducible exact ih1 _ _ _ _ _ _ _)
   | (with_reducible exact ih2 _ _ _ _ _ _ _ _)
   | (with_reducible exact ih3 _ _ _ _ _ _ _ _ _)
   | (with_reducible exact ih4 _ _ _ _ _ _ _ _ _ _)
   | (with_reducible exact ih5 _ _ _ _ _ _ _ _ _ _ _)
   | (with_reducible exact ih6 _ _ _ _ _ _ _ _ _ _ _ _)
   | (with_reducible exact ih7 _ _ _ _ _ _ _ _)
   | (with_reducible exact ih8 _ _ _ _ _ _ _ _ _)
   | (with_reducible exact ih9 _ _ _ _ _ _ _ _)
   | (with_reducible exact LeO.refl _)
   | (with_reducible exact LeO.none _)
   | (with_reducible refine LeO.ite ?_ ?_)
   | (with_reducible refine LeO.bind ?_ (fun _ => ?_))
   | exact ih0 _ _ _ _ _ _ _
   | exact ih1 _ _ _ _ _ _ _
   | exact ih2 _ _ _ _ _ _ _ _
   | exact ih3 _ _ _ _ _ _ _ _ _
   | exact ih4 _ _ _ _ _ _ _ _ _ _
   | exact ih5 _ _ _ _ _ _ _ _ _ _ _
   | exact ih6 _ _ _ _ _ _ _ _ _ _ _ _
   | exact ih7 _ _ _ _ _ _ _ _
   | exact ih8 _ _ _ _ _ _ _ _ _
   | exact ih9 _ _ _ _ _ _ _ _
   | exact LeO.none _
   | refine LeO.ite ?_ ?_
   | refine LeO.bind ?_ (fun _ => ?_)
  ·intro y0 y1 y2 y3 y4 y5 y6 y7 y8 y9 y10
   unfold saronlaw01_sound.l2
   repeat' first
   | (with_reducible exact ih0 _ _ _ _ _ _ _)
   | (with_reducible exact ih1 _ _ _ _ _ _ _)
   | (with_reducible exact ih2 _ _ _ _ _ _ _ _)
   | (with_reducible exact ih3 _ _ _ _ _ _ _ _ _)
   | (with_reducible exact ih4 _ _ _ _ _ _ _ _ _ _)
   | (with_reducible exact ih5 _ _ _ _ _ _ _ _ _ _ _)
   | (with_reducible exact ih6 _ _ _ _ _ _ _ _ _ _ _ _)
   | (with_reducible exact ih7 _ _ _ _ _ _ _ _)
   | (with_reducible exact ih8 _ _ _ _ _ _ _ _ _)
   | (with_reducible exact ih9 _ _ _ _ _ _ _ _)
   | (with_reducible exact LeO.refl _)
   | (with_reducible exact LeO.none _)
   | (with_reducible refine LeO.ite ?_ ?_)
   | (with_reducible refine LeO.bind ?_ (fun _ => ?_))
   | exact ih0 _ _ _ _ _ _ _
   | exact ih1 _ _ _ _ _ _ _
   | exact ih2 _ _ _ _ _ _ _ _
   | exact ih3 _ _ _ _ _ _ _ _ _
   | exact ih4 _ _ _ _ _ _ _ _ _ _
   | exact ih5 _ _ _ _ _ _ _ _ _ _ _
   | exact ih6 _ _ _ _ _ _ _ _ _ _ _ _
   | exact ih7 _ _ _ _ _ _ _ _
   | exact ih8 _ _ _ _ _ _ _ _ _
   | exact ih9 _ _ _ _ _ _ _ _
   | exact LeO.none _
   | refine LeO.ite ?_ ?_
   | refine LeO.bind ?_ (fun _ => ?_)
  ·intro y0 y1 y2 y3 y4 y5 y6 y7 y8 y9 y10 y11
   unfold saronlaw01_sound.j7
   repeat' first
   | (with_reducible exact ih0 _ _ _ _ _ _ _)
   | (with_reducible exact ih1 _ _ _ _ _ _ _)
   | (with_reducible exact ih2 _ _ _ _ _ _ _ _)
   | (with_reducible exact ih3 _ _ _ _ _ _ _ _ _)
   | (with_reducible exact ih4 _ _ _ _ _ _ _ _ _ _)
   | (with_reducible exact ih5 _ _ _ _ _ _ _ _ _ _ _)
   | (with_reducible exact ih6 _ _ _ _ _ _ _ _ _ _ _ _)
   | (with_reducible exact ih7 _ _ _ _ _ _ _ _)
   | (with_reducible exact ih8 _ _ _ _ _ _ _ _ _)
   | (with_reducible exact ih9 _ _ _ _ _ _ _ _)
   | (with_reducible exact LeO.refl _)
   | (with_reducible exact LeO.none _)
   | (with_reducible refine LeO.ite ?_ ?_)
   | (with_reducible refine LeO.bind ?_ (fun _ => ?_))
   | exact ih0 _ _ _ _ _ _ _
   | exact ih1 _ _ _ _ _ _ _
   | exact ih2 _ _ _ _ _ _ _ _
   | exact ih3 _ _ _ _ _ _ _ _ _
   | exact ih4 _ _ _ _ _ _ _ _ _ _
   | exact ih5 _ _ _ _ _ _ _ _ _ _ _
   | exact ih6 _ _ _ _ _ _ _ _ _ _ _ _
   | exact ih7 _ _ _ _ _ _ _ _
   | exact ih8 _ _ _ _ _ _ _ _ _
   | exact ih9 _ _ _ _ _ _ _ _
   | exact LeO.none _
   | refine LeO.ite ?_ ?_
   | refine LeO.bind ?_ (fun _ => ?_)
  ·intro y0 y1 y2 y3 y4 y5 y6 y7
   unfold saronlaw01_sound.l3
   repeat' first
   | (with_reducible exact ih0 _ _ _ _ _ _ _)
   | (with_reducible exact ih1 _ _ _ _ _ _ _)
   | (with_reducible exact ih2 _ _ _ _ _ _ _ _)
   | (with_reducible exact ih3 _ _ _ _ _ _ _ _ _)
   | (with_reducible exact ih4 _ _ _ _ _ _ _ _ _ _)
   | (with_reducible exact ih5 _ _ _ _ _ _ _ _ _ _ _)
   | (with_reducible exact ih6 _ _ _ _ _ _ _ _ _ _ _ _)
   | (with_reducible exact ih7 _ _ _ _ _ _ _ _)
   | (with_reducible exact ih8 _ _ _ _ _ _ _ _ _)
   | (with_reducible exact ih9 _ _ _ _ _ _ _ _)
   | (with_reducible exact LeO.refl _)
   | (with_reducible exact LeO.none _)
   | (with_reducible refine LeO.ite ?_ ?_)
   | (with_reducible refine LeO.bind ?_ (fun _ => ?_))
   | exact ih0 _ _ _ _ _ _ _
   | exact ih1 _ _ _ _ _ _ _
   | exact ih2 _ _ _ _ _ _ _ _
   | exact ih3 _ _ _ _ _ _ _ _ _
   | exact ih4 _ _ _ _ _ _ _ _ _ _
   | exact ih5 _ _ _ _ _ _ _ _ _ _ _
   | exact ih6 _ _ _ _ _ _ _ _ _ _ _ _
   | exact ih7 _ _ _ _ _ _ _ _
   | exact ih8 _ _ _ _ _ _ _ _ _
   | exact ih9 _ _ _ _ _ _ _ _
   | exact LeO.none _
   | refine LeO.ite ?_ ?_
   | refine LeO.bind ?_ (fun _ => ?_)
  ·intro y0 y1 y2 y3 y4 y5 y6 y7 y8
   unfold saronlaw01_sound.j9
   repeat' first
   | (with_reducible exact ih0 _ _ _ _ _ _ _)
   | (with_reducible exact ih1 _ _ _ _ _ _ _)
   | (with_reducible exact ih2 _ _ _ _ _ _ _ _)
   | (with_reducible exact ih3 _ _ _ _ _ _ _ _ _)
   | (with_reducible exact ih4 _ _ _ _ _ _ _ _ _ _)
   | (with_reducible exact ih5 _ _ _ _ _ _ _ _ _ _ _)
   | (with_reducible exact ih6 _ _ _ _ _ _ _ _ _ _ _ _)
   | (with_reducible exact ih7 _ _ _ _ _ _ _ _)
   | (with_reducible exact ih8 _ _ _ _ _ _ _ _ _)
   | (with_reducible exact ih9 _ _ _ _ _ _ _ _)
   | (with_reducible exact LeO.refl _)
   | (with_reducible exact LeO.none _)
   | (with_reducible refine LeO.ite ?_ ?_)
   | (with_reducible refine LeO.bind ?_ (fun _ => ?_))
   | exact ih0 _ _ _ _ _ _ _
   | exact ih1 _ _ _ _ _ _ _
   | exact ih2 _ _ _ _ _ _ _ _
   | exact ih3 _ _ _ _ _ _ _ _ _
   | exact ih4 _ _ _ _ _ _ _ _ _ _
   | exact ih5 _ _ _ _ _ _ _ _ _ _ _
   | exact ih6 _ _ _ _ _ _ _ _ _ _ _ _
   | exact ih7 _ _ _ _ _ _ _ _
   | exact ih8 _ _ _ _ _ _ _ _ _
   | exact ih9 _ _ _ _ _ _ _ _
   | exact LeO.none _
   | refine LeO.ite ?_ ?_
   | refine LeO.bind ?_ (fun _ => ?_)
  ·intro y0 y1 y2 y3 y4 y5 y6 y7
   unfold saronlaw01_sound.l0
   repeat' first
   | (with_reducible exact ih0 _ _ _ _ _ _ _)
   | (with_reducible exact ih1 _ _ _ _ _ _ _)
   | (with_reducible exact ih2 _ _ _ _ _ _ _ _)
   | (with_reducible exact ih3 _ _ _ _ _ _ _ _ _)
   | (with_reducible exact ih4 _ _ _ _ _ _ _ _ _ _)
   | (with_reducible exact ih5 _ _ _ _ _ _ _ _ _ _ _)
   | (with_reducible exact ih6 _ _ _ _ _ _ _ _ _ _ _ _)
   | (with_reducible exact ih7 _ _ _ _ _ _ _ _)
   | (with_reducible exact ih8 _ _ _ _ _ _ _ _ _)
   | (with_reducible exact ih9 _ _ _ _ _ _ _ _)
   | (with_reducible exact LeO.refl _)
   | (with_reducible exact LeO.none _)
   | (with_reducible refine LeO.ite ?_ ?_)
   | (with_reducible refine LeO.bind ?_ (fun _ => ?_))
   | exact ih0 _ _ _ _ _ _ _
   | exact ih1 _ _ _ _ _ _ _
   | exact ih2 _ _ _ _ _ _ _ _
   | exact ih3 _ _ _ _ _ _ _ _ _
   | exact ih4 _ _ _ _ _ _ _ _ _ _
   | exact ih5 _ _ _ _ _ _ _ _ _ _ _
   | exact ih6 _ _ _ _ _ _ _ _ _ _ _ _
   | exact ih7 _ _ _ _ _ _ _ _
   | exact ih8 _ _ _ _ _ _ _ _ _
   | exact ih9 _ _ _ _ _ _ _ _
   | exact LeO.none _
   | refine LeO.ite ?_ ?_
   | refine LeO.bind ?_ (fun _ => ?_)
theorem saronlaw01_sound.mono : ∀ a0 a1 a2 a3 a4 k, LeO (saronlaw01_sound.f k a0 a1 a2 a3 a4) (saronlaw01_sound.f (k + 1) a0 a1 a2 a3 a4) := by
 intro a0 a1 a2 a3 a4 k
 obtain ⟨ih0, ih1, ih2, ih3, ih4, ih5, ih6, ih7, ih8, ih9⟩ := saronlaw01_sound.mono_l k
 unfold saronlaw01_sound.f
 repeat' first
   | (with_reducible exact ih0 _ _ _ _ _ _ _)
   | (with_reducible exact ih1 _ _ _ _ _ _ _)
   | (with_reducible exact ih2 _ _ _ _ _ _ _ _)
   | (with_reducible exact ih3 _ _ _ _ _ _ _ _ _)
   | (with_reducible exact ih4 _ _ _ _ _ _ _ _ _ _)
   | (with_reducible exact ih5 _ _ _ _ _ _ _ _ _ _ _)
   | (with_reducible exact ih6 _ _ _ _ _ _ _ _ _ _ _ _)
   | (with_reducible exact ih7 _ _ _ _ _ _ _ _)
   | (with_reducible exact ih8 _ _ _ _ _ _ _ _ _)
   | (with_reducible exact ih9 _ _ _ _ _ _ _ _)
   | (with_reducible exact LeO.refl _)
   | (with_reducible exact LeO.none _)
   | (with_reducible refine LeO.ite ?_ ?_)
   | (with_reducible refine LeO.bind ?_ (fun _ => ?_))
   | exact ih0 _ _ _ _ _ _ _
   | exact ih1 _ _ _ _ _ _ _
   | exact ih2 _ _ _ _ _ _ _ _
   | exact ih3 _ _ _ _ _ _ _ _ _
   | exact ih4 _ _ _ _ _ _ _ _ _ _
   | exact ih5 _ _ _ _ _ _ _ _ _ _ _
   | exact ih6 _ _ _ _ _ _ _ _ _ _ _ _
   | exact ih7 _ _ _ _ _ _ _ _
   | exact ih8 _ _ _ _ _ _ _ _ _
   | exact ih9 _ _ _ _ _ _ _ _
   | exact LeO.none _
   | refine LeO.ite ?_ ?_
   | refine LeO.bind ?_ (fun _ => ?_)
def saronlaw01_sound.T6 : Bool × List (List Nat × List Nat) := (true, [([], []), ([0], [0]), ([], []), ([1, 2], [1, 2]), ([3], [3]), ([4], [4]), ([5, 5], [5]), ([6], [6]), ([7, 6], [6, 7]), ([6], [6]), ([8, 9, 6], [6, 8, 9]), ([10, 6], [6, 10]), ([11, 6], [6, 11]), ([6], [6]), ([13, 6], [6, 13]), ([6], [6]), ([14, 15, 6], [6, 14, 15]), ([16, 6], [6, 16]), ([17, 6], [6, 17]), ([12, 18, 6], [6, 12, 18]), ([19, 6], [6, 19]), ([6, 20], [6, 20]), ([21, 6, 0, 1, 2, 3, 4, 5, 6, 7, 8, 9, 10, 11, 12, 13, 14, 15, 16, 17, 18, 19, 20, 21], [21])])
def saronlaw01_sound.B6 : List Nat := [0, 1, 0, 7, 15, 31, 63, 127, 255, 127, 1023, 2047, 4095, 127, 8319, 127, 57471, 123007, 254079, 524287, 1048575, 2097151, 4194303]
theorem saronlaw01_sound.tab6 : rtab .any (opsOf Tryd.f36 6) = saronlaw01_sound.T6 := by kernel_rfl
theorem saronlaw01_sound.bits6 : waitsOk saronlaw01_sound.T6.2 saronlaw01_sound.B6 = true := by kernel_rfl
set_option maxHeartbeats 8000000 in
set_option maxRecDepth 100000 in
theorem saronlaw01_sound.calls (k : Nat) (A0_0 : Option Addr) (c0_0 : Nat) (l0_0 : List (S26)) (A0_1 : Option Addr) (c0_1 : Nat) (l0_1 : List (S61)) (A0_2 : Option Addr) (c0_2 : Nat) (l0_2 : List (S48)) (a0_3 : Int) (a0_4 : Int) (r : Bool) (w : World) (hr0_0 : Kd.C k26 w A0_0 l0_0.length l0_0) (hc0_0 : l0_0.length ≤ c0_0) (hr0_1 : Kd.C k61 w A0_1 l0_1.length l0_1) (hc0_1 : l0_1.length ≤ c0_1) (hr0_2 : Kd.C k48 w A0_2 l0_2.length l0_2) (hc0_2 : l0_2.length ≤ c0_2) (hG : Glob w) (h : saronlaw01_sound.f k l0_0 l0_1 l0_2 a0_3 a0_4 = some r) :
  Calls Tryd.prog 36 #[.agg #[.slice A0_0 l0_0.length c0_0, .slice A0_1 l0_1.length c0_1, .slice A0_2 l0_2.length c0_2, .int .i64 a0_3, .int .i64 a0_4]] w fun e w' => e = .returned (.bool r) ∧ Below w.heap.size w w' := by
 have hu28 := Tryd.underlying28
 have hu26 := Tryd.underlying26
 have hu61 := Tryd.underlying61
 have HG := zh hG
 clear hG
 have HR0_0 := zh hr0_0
 have HC0_0 := zh hc0_0
 clear hr0_0 hc0_0
 have HR0_1 := zh hr0_1
 have HC0_1 := zh hc0_1
 clear hr0_1 hc0_1
 have HR0_2 := zh hr0_2
 have HC0_2 := zh hc0_2
 clear hr0_2 hc0_2
 have HB := zh (Below.refl w.heap.size w)
 have H : ((tune_Check.f l0_0 l0_1 l0_2 a0_3 a0_4).bind fun t376 => (if t376 = 0 then ((saronref00_Sits.f (l0_0.length : Int) 1 8).bind fun t377 => (if t377 = true then (if (l0_1.length : Int) ≤ 2 then (if (l0_2.length : Int) ≤ 4 then ((saronref00_Good.f a0_3 a0_4 0 60).bind fun t378 => (saronlaw01_sound.j0 k (l0_0.length : Int) t378 l0_0 l0_1 l0_2 a0_3 a0_4)) else (saronlaw01_sound.j0 k (l0_0.length : Int) false l0_0 l0_1 l0_2 a0_3 a0_4)) else (saronlaw01_sound.j0 k (l0_0.length : Int) false l0_0 l0_1 l0_2 a0_3 a0_4)) else (saronlaw01_sound.j0 k (l0_0.length : Int) false l0_0 l0_1 l0_2 a0_3 a0_4))) else (saronlaw01_sound.j0 k (l0_0.length : Int) false l0_0 l0_1 l0_2 a0_3 a0_4))) = some r := h
 clear h
 have HC2 := zh H
 clear H
 go_enter Tryd.func36, Tryd.ntmps36
 go_upto_region 2 with (first | ((with_reducible refine gate_dst (N := 1) rfl ?_); (try (refine gate_guard (by rfl) ?_; dsimp only)); refine box_event ?hg (N := 1) ?hd (cs := #[.slice A0_0 l0_0.length c0_0, .slice A0_1 l0_1.length c0_1, .slice A0_2 l0_2.length c0_2, .int .i64 a0_3, .int .i64 a0_4]) (t := 28) ?hr ?_; (case hd => rfl); (case hg => rfl); (case hr => first | (go_simp; done) | (go_simp; rfl)); intro gb375 hg w3 hbox hb; have BK375 := zh (hbox); have GW375 := zh ((by rw [hg]; exact (below_size zb) : w.heap.size ≤ gb375)); have GE375 := zh ((by rw [hg]; exact (below_size zb) : w.heap.size ≤ gb375)); replace HB := zh (below_step zb hb); clear hb hbox hg; obtain ⟨hcz4_0, hcz4_1, hcz4_2, hcz4_3, hcz4_4⟩ := zC5 BK375.out; obtain ⟨hfz4_0, hfz4_1, hfz4_2, hfz4_3, hfz4_4⟩ := zF5 BK375.out))
 (try simp only [Act.put, List.setIfInBounds_toArray, List.set_cons_zero, List.set_cons_succ])
 go_cut [4] (fun v4 wc => ∃ (kq : Nat) (x4_1 : Bool), v4 = .bool x4_1 ∧ Aside0 (saronlaw01_sound.j0 kq (l0_0.length : Int) x4_1 l0_0 l0_1 l0_2 a0_3 a0_4 = some r) ∧ Aside0 (kq ≤ k) ∧ Aside0 (wc.heap[gb375]? = some (.cells #[(.slice A0_0 l0_0.length c0_0), (.slice A0_1 l0_1.length c0_1), (.slice A0_2 l0_2.length c0_2), .int .i64 a0_3, .int .i64 a0_4] 28 (0, 0))) ∧ Aside0 (Below w.heap.size w wc))
 case first =>
  have H := HC2.out
  clear HC2
  replace H := Option.bind_eq_some_iff.mp H
  obtain ⟨t376, A50, H⟩ := H
  replace H : (if t376 = 0 then ((saronref00_Sits.f (l0_0.length : Int) 1 8).bind fun t377 => (if t377 = true then (if (l0_1.length : Int) ≤ 2 then (if (l0_2.length : Int) ≤ 4 then ((saronref00_Good.f a0_3 a0_4 0 60).bind fun t378 => (saronlaw01_sound.j0 k (l0_0.length : Int) t378 l0_0 l0_1 l0_2 a0_3 a0_4)) else (saronlaw01_sound.j0 k (l0_0.length : Int) false l0_0 l0_1 l0_2 a0_3 a0_4)) else (saronlaw01_sound.j0 k (l0_0.length : Int) false l0_0 l0_1 l0_2 a0_3 a0_4)) else (saronlaw01_sound.j0 k (l0_0.length : Int) false l0_0 l0_1 l0_2 a0_3 a0_4))) else (saronlaw01_sound.j0 k (l0_0.length : Int) false l0_0 l0_1 l0_2 a0_3 a0_4)) = some r := H
  have A5 := zh A50
  clear A50
  by_cases c6 : t376 = 0
  ·rw [if_pos c6] at H
   have c6b0 : (t376 == 0) = true := beq_iff_eq.mpr c6
   have c6b1 : (t376 != 0) = false := bne_eq_false_iff_eq.mpr c6
   clear c6
   (first | rw [c6b0] | (simp only [i64_w, i32_w]; rw [c6b0]) | skip)
   replace H := Option.bind_eq_some_iff.mp H
   obtain ⟨t377, A70, H⟩ := H
   replace H : (if t377 = true then (if (l0_1.length : Int) ≤ 2 then (if (l0_2.length : Int) ≤ 4 then ((saronref00_Good.f a0_3 a0_4 0 60).bind fun t378 => (saronlaw01_sound.j0 k (l0_0.length : Int) t378 l0_0 l0_1 l0_2 a0_3 a0_4)) else (saronlaw01_sound.j0 k (l0_0.length : Int) false l0_0 l0_1 l0_2 a0_3 a0_4)) else (saronlaw01_sound.j0 k (l0_0.length : Int) false l0_0 l0_1 l0_2 a0_3 a0_4)) else (saronlaw01_sound.j0 k (l0_0.length : Int) false l0_0 l0_1 l0_2 a0_3 a0_4)) = some r := H
   have A7 := zh A70
   clear A70
   by_cases c8 : t377 = true
   ·subst c8
    have H1 : (if (l0_1.length : Int) ≤ 2 then (if (l0_2.length : Int) ≤ 4 then ((saronref00_Good.f a0_3 a0_4 0 60).bind fun t378 => (saronlaw01_sound.j0 k (l0_0.length : Int) t378 l0_0 l0_1 l0_2 a0_3 a0_4)) else (saronlaw01_sound.j0 k (l0_0.length : Int) false l0_0 l0_1 l0_2 a0_3 a0_4)) else (saronlaw01_sound.j0 k (l0_0.length : Int) false l0_0 l0_1 l0_2 a0_3 a0_4)) = some r := by rw [if_pos rfl] at H; exact H
    clear H
    have H := H1
    clear H1
    by_cases c9 : (l0_1.length : Int) ≤ 2
    ·rw [if_pos c9] at H
     have c9b0 : decide ((l0_1.length : Int) ≤ 2) = true := decide_eq_true c9
     have c9b1 : decide (l0_1.length ≤ 2) = true := decide_eq_true (by omega)
     clear c9
     by_cases c10 : (l0_2.length : Int) ≤ 4
     ·rw [if_pos c10] at H
      have c10b0 : decide ((l0_2.length : Int) ≤ 4) = true := decide_eq_true c10
      have c10b1 : decide (l0_2.length ≤ 4) = true := decide_eq_true (by omega)
      clear c10
      replace H := Option.bind_eq_some_iff.mp H
      obtain ⟨t378, A110, H⟩ := H
      replace H : (saronlaw01_sound.j0 k (l0_0.length : Int) t378 l0_0 l0_1 l0_2 a0_3 a0_4) = some r := H
      have A11 := zh A110
      clear A110
      have H' := zh H
      clear H
      obtain ⟨hcz12_0, hcz12_1, hcz12_2, hcz12_3, hcz12_4⟩ := zC5 BK375.out
      obtain ⟨hfz12_0, hfz12_1, hfz12_2, hfz12_3, hfz12_4⟩ := zF5 BK375.out
      go_wp2_with (first | ((with_reducible refine gate_callee (f := 18) rfl ?_); refine goesL_ (some 14) rfl rfl Tryd.func18 zk rfl #[.agg #[.slice A0_0 l0_0.length c0_0, .slice A0_1 l0_1.length c0_1, .slice A0_2 l0_2.length c0_2, .int .i64 a0_3, .int .i64 a0_4]] rfl zm ?_; (with_reducible refine (tune_Check.calls _ _ l0_0 _ _ l0_1 _ _ l0_2 a0_3 a0_4 t376 _ ?side1 ?side2 ?side3 ?side4 ?side5 ?side6 ?side7 A5.out).mono ?_); (case side1 => exact zKC HR0_0 HB); (case side2 => exact HC0_0.out); (case side3 => exact zKC HR0_1 HB); (case side4 => exact HC0_1.out); (case side5 => exact zKC HR0_2 HB); (case side6 => exact HC0_2.out); (case side7 => exact Glob.below HG.out zb); rintro e w13 ⟨rfl, hb⟩; refine ⟨_, rfl, ?_⟩; replace BK375 := zX BK375 hb; replace HB := zh (below_step zb hb); (try clear hb); (try clear hb2); (try clear hk); (try clear hi)) | (go_at_call 59; (with_reducible refine (saronref00_Sits.calls (l0_0.length : Int) 1 8 true _ A7.out).mono ?_); rintro e w' ⟨rfl, ⟨nd, rfl⟩⟩; obtain ⟨hcz14_0, hcz14_1, hcz14_2, hcz14_3, hcz14_4⟩ := zC5 BK375.out; obtain ⟨hfz14_0, hfz14_1, hfz14_2, hfz14_3, hfz14_4⟩ := zF5 BK375.out) | (go_at_call 46; (with_reducible refine (saronref00_Good.calls a0_3 a0_4 0 60 t378 _ A11.out).mono ?_); rintro e w15 ⟨rfl, hb⟩; replace BK375 := zX BK375 hb; replace HB := zh (below_step zb hb); (try clear hb); (try clear hb2); (try clear hk); (try clear hi)))
      go_meet
      case rel => exact ⟨_, (t378), ze, H', ⟨zo1⟩, ⟨zc BK375⟩, ⟨zb⟩⟩
     ·rw [if_neg c10] at H
      have c10b0 : decide ((l0_2.length : Int) ≤ 4) = false := decide_eq_false c10
      have c10b1 : decide (l0_2.length ≤ 4) = false := decide_eq_false (by omega)
      clear c10
      have H' := zh H
      clear H
      obtain ⟨hcz16_0, hcz16_1, hcz16_2, hcz16_3, hcz16_4⟩ := zC5 BK375.out
      obtain ⟨hfz16_0, hfz16_1, hfz16_2, hfz16_3, hfz16_4⟩ := zF5 BK375.out
      go_wp2_with (first | ((with_reducible refine gate_callee (f := 18) rfl ?_); refine goesL_ (some 14) rfl rfl Tryd.func18 zk rfl #[.agg #[.slice A0_0 l0_0.length c0_0, .slice A0_1 l0_1.length c0_1, .slice A0_2 l0_2.length c0_2, .int .i64 a0_3, .int .i64 a0_4]] rfl zm ?_; (with_reducible refine (tune_Check.calls _ _ l0_0 _ _ l0_1 _ _ l0_2 a0_3 a0_4 t376 _ ?side1 ?side2 ?side3 ?side4 ?side5 ?side6 ?side7 A5.out).mono ?_); (case side1 => exact zKC HR0_0 HB); (case side2 => exact HC0_0.out); (case side3 => exact zKC HR0_1 HB); (case side4 => exact HC0_1.out); (case side5 => exact zKC HR0_2 HB); (case side6 => exact HC0_2.out); (case side7 => exact Glob.below HG.out zb); rintro e w17 ⟨rfl, hb⟩; refine ⟨_, rfl, ?_⟩; replace BK375 := zX BK375 hb; replace HB := zh (below_step zb hb); (try clear hb); (try clear hb2); (try clear hk); (try clear hi)) | (go_at_call 59; (with_reducible refine (saronref00_Sits.calls (l0_0.length : Int) 1 8 true _ A7.out).mono ?_); rintro e w' ⟨rfl, ⟨nd, rfl⟩⟩; obtain ⟨hcz18_0, hcz18_1, hcz18_2, hcz18_3, hcz18_4⟩ := zC5 BK375.out; obtain ⟨hfz18_0, hfz18_1, hfz18_2, hfz18_3, hfz18_4⟩ := zF5 BK375.out))
      go_meet
      case rel => exact ⟨_, (false), ze, H', ⟨zo1⟩, ⟨zc BK375⟩, ⟨zb⟩⟩
    ·rw [if_neg c9] at H
     have c9b0 : decide ((l0_1.length : Int) ≤ 2) = false := decide_eq_false c9
     have c9b1 : decide (l0_1.length ≤ 2) = false := decide_eq_false (by omega)
     clear c9
     have H' := zh H
     clear H
     obtain ⟨hcz19_0, hcz19_1, hcz19_2, hcz19_3, hcz19_4⟩ := zC5 BK375.out
     obtain ⟨hfz19_0, hfz19_1, hfz19_2, hfz19_3, hfz19_4⟩ := zF5 BK375.out
     go_wp2_with (first | ((with_reducible refine gate_callee (f := 18) rfl ?_); refine goesL_ (some 14) rfl rfl Tryd.func18 zk rfl #[.agg #[.slice A0_0 l0_0.length c0_0, .slice A0_1 l0_1.length c0_1, .slice A0_2 l0_2.length c0_2, .int .i64 a0_3, .int .i64 a0_4]] rfl zm ?_; (with_reducible refine (tune_Check.calls _ _ l0_0 _ _ l0_1 _ _ l0_2 a0_3 a0_4 t376 _ ?side1 ?side2 ?side3 ?side4 ?side5 ?side6 ?side7 A5.out).mono ?_); (case side1 => exact zKC HR0_0 HB); (case side2 => exact HC0_0.out); (case side3 => exact zKC HR0_1 HB); (case side4 => exact HC0_1.out); (case side5 => exact zKC HR0_2 HB); (case side6 => exact HC0_2.out); (case side7 => exact Glob.below HG.out zb); rintro e w20 ⟨rfl, hb⟩; refine ⟨_, rfl, ?_⟩; replace BK375 := zX BK375 hb; replace HB := zh (below_step zb hb); (try clear hb); (try clear hb2); (try clear hk); (try clear hi)) | (go_at_call 59; (with_reducible refine (saronref00_Sits.calls (l0_0.length : Int) 1 8 true _ A7.out).mono ?_); rintro e w' ⟨rfl, ⟨nd, rfl⟩⟩; obtain ⟨hcz21_0, hcz21_1, hcz21_2, hcz21_3, hcz21_4⟩ := zC5 BK375.out; obtain ⟨hfz21_0, hfz21_1, hfz21_2, hfz21_3, hfz21_4⟩ := zF5 BK375.out))
     go_meet
     case rel => exact ⟨_, (false), ze, H', ⟨zo1⟩, ⟨zc BK375⟩, ⟨zb⟩⟩
   ·replace c8 := Bool.eq_false_iff.mpr c8
    subst c8
    have H1 : (saronlaw01_sound.j0 k (l0_0.length : Int) false l0_0 l0_1 l0_2 a0_3 a0_4) = some r := by rw [if_neg (show ¬ (false = true) by decide)] at H; exact H
    clear H
    have H := H1
    clear H1
    have H' := zh H
    clear H
    obtain ⟨hcz22_0, hcz22_1, hcz22_2, hcz22_3, hcz22_4⟩ := zC5 BK375.out
    obtain ⟨hfz22_0, hfz22_1, hfz22_2, hfz22_3, hfz22_4⟩ := zF5 BK375.out
    go_wp2_with (first | ((with_reducible refine gate_callee (f := 18) rfl ?_); refine goesL_ (some 14) rfl rfl Tryd.func18 zk rfl #[.agg #[.slice A0_0 l0_0.length c0_0, .slice A0_1 l0_1.length c0_1, .slice A0_2 l0_2.length c0_2, .int .i64 a0_3, .int .i64 a0_4]] rfl zm ?_; (with_reducible refine (tune_Check.calls _ _ l0_0 _ _ l0_1 _ _ l0_2 a0_3 a0_4 t376 _ ?side1 ?side2 ?side3 ?side4 ?side5 ?side6 ?side7 A5.out).mono ?_); (case side1 => exact zKC HR0_0 HB); (case side2 => exact HC0_0.out); (case side3 => exact zKC HR0_1 HB); (case side4 => exact HC0_1.out); (case side5 => exact zKC HR0_2 HB); (case side6 => exact HC0_2.out); (case side7 => exact Glob.below HG.out zb); rintro e w23 ⟨rfl, hb⟩; refine ⟨_, rfl, ?_⟩; replace BK375 := zX BK375 hb; replace HB := zh (below_step zb hb); (try clear hb); (try clear hb2); (try clear hk); (try clear hi)) | (go_at_call 59; (with_reducible refine (saronref00_Sits.calls (l0_0.length : Int) 1 8 false _ A7.out).mono ?_); rintro e w' ⟨rfl, ⟨nd, rfl⟩⟩))
    go_meet
    case rel => exact ⟨_, (false), ze, H', ⟨zo1⟩, ⟨zc BK375⟩, ⟨zb⟩⟩
  ·rw [if_neg c6] at H
   have c6b0 : (t376 == 0) = false := beq_eq_false_iff_ne.mpr c6
   have c6b1 : (t376 != 0) = true := bne_iff_ne.mpr c6
   (first | rw [c6b0] | (simp only [i64_w, i32_w]; rw [c6b0]) | skip)
   have H' := zh H
   clear H
   obtain ⟨hcz24_0, hcz24_1, hcz24_2, hcz24_3, hcz24_4⟩ := zC5 BK375.out
   obtain ⟨hfz24_0, hfz24_1, hfz24_2, hfz24_3, hfz24_4⟩ := zF5 BK375.out
   go_wp2_with (first | ((with_reducible refine gate_callee (f := 18) rfl ?_); refine goesL_ (some 14) rfl rfl Tryd.func18 zk rfl #[.agg #[.slice A0_0 l0_0.length c0_0, .slice A0_1 l0_1.length c0_1, .slice A0_2 l0_2.length c0_2, .int .i64 a0_3, .int .i64 a0_4]] rfl zm ?_; (with_reducible refine (tune_Check.calls _ _ l0_0 _ _ l0_1 _ _ l0_2 a0_3 a0_4 t376 _ ?side1 ?side2 ?side3 ?side4 ?side5 ?side6 ?side7 A5.out).mono ?_); (case side1 => exact zKC HR0_0 HB); (case side2 => exact HC0_0.out); (case side3 => exact zKC HR0_1 HB); (case side4 => exact HC0_1.out); (case side5 => exact zKC HR0_2 HB); (case side6 => exact HC0_2.out); (case side7 => exact Glob.below HG.out zb); rintro e w25 ⟨rfl, hb⟩; refine ⟨_, rfl, ?_⟩; replace BK375 := zX BK375 hb; replace HB := zh (below_step zb hb); (try clear hb); (try clear hb2); (try clear hk); (try clear hi)))
   go_meet
   case rel => exact ⟨_, (false), ze, H', ⟨zo1⟩, ⟨zc BK375⟩, ⟨zb⟩⟩
 case rest =>
  clear HC2 hcz4_0 hcz4_1 hcz4_2 hcz4_3 hcz4_4 hfz4_0 hfz4_1 hfz4_2 hfz4_3 hfz4_4
  obtain ⟨kq, x4_1, rfl, HA, HJ1, BK375, HB⟩ := hcut
  cases kq with
  | zero => exact absurd HA.out (by simp [saronlaw01_sound.j0])
  | succ kj1 =>
   have H := HA.out
   clear HA
   simp only [saronlaw01_sound.j0] at H
   have HC26 := zh H
   clear H
   go_upto_block 0 with (fail)
   go_cut [4] (fun v4 wc => ∃ (kq : Nat) (x4_25 : Bool), v4 = .bool x4_25 ∧ Aside0 (saronlaw01_sound.j2 kq (l0_0.length : Int) x4_25 l0_0 l0_1 l0_2 a0_3 a0_4 = some r) ∧ Aside0 (kq ≤ kj1) ∧ Aside0 (wc.heap[gb375]? = some (.cells #[(.slice A0_0 l0_0.length c0_0), (.slice A0_1 l0_1.length c0_1), (.slice A0_2 l0_2.length c0_2), .int .i64 a0_3, .int .i64 a0_4] 28 (0, 0))) ∧ Aside0 (Below w.heap.size w wc))
   case first =>
    have H := HC26.out
    clear HC26
    have H' := zh H
    clear H
    go_wp2
    go_loopg [4, 5] kj1 (fun kq v4 v5 w' => ∃ (x4_2 : Bool) (x5_2 : Int), v4 = .bool x4_2 ∧ v5 = .int .i64 x5_2 ∧ Aside0 (saronlaw01_sound.l0 kq (l0_0.length : Int) x4_2 x5_2 l0_0 l0_1 l0_2 a0_3 a0_4 = some r) ∧ Aside0 (kq ≤ kj1) ∧ Aside0 (w'.heap[gb375]? = some (.cells #[(.slice A0_0 l0_0.length c0_0), (.slice A0_1 l0_1.length c0_1), (.slice A0_2 l0_2.length c0_2), .int .i64 a0_3, .int .i64 a0_4] 28 (0, 0))) ∧ Aside0 (Below w.heap.size w w'))
    case atStart => exact ⟨(x4_1), (0), ze, ze, H', ⟨Nat.le_refl _⟩, ⟨zc BK375⟩, ⟨zb⟩⟩
    case round =>
     clear H'
     obtain ⟨x4_2, x5_2, rfl, rfl, HA, HK2, BK375, HB⟩ := hrel
     cases gk with
     | zero => exact absurd HA.out (by simp [saronlaw01_sound.l0])
     | succ k2 =>
      have H := HA.out
      clear HA
      simp only [saronlaw01_sound.l0] at H
      by_cases c27 : x4_2 = true
      ·subst c27
       have H1 : (if x5_2 < (l0_0.length : Int) then (if 0 ≤ x5_2 then (if x5_2 < (l0_0.length : Int) then ((saronref00_Good.f ((rd_T26 l0_0 x5_2).f0) ((rd_T26 l0_0 x5_2).f1) 1 4000).bind fun t380 => (if t380 = true then (saronlaw01_sound.l0 k2 (l0_0.length : Int) (decide ((wrap64 (((rd_T26 l0_0 x5_2).f1) - ((rd_T26 l0_0 x5_2).f0))) ≤ 40)) (wrap64 (x5_2 + 1)) l0_0 l0_1 l0_2 a0_3 a0_4) else (saronlaw01_sound.l0 k2 (l0_0.length : Int) false (wrap64 (x5_2 + 1)) l0_0 l0_1 l0_2 a0_3 a0_4))) else (none)) else (none)) else (saronlaw01_sound.j2 k2 (l0_0.length : Int) true l0_0 l0_1 l0_2 a0_3 a0_4)) = some r := by rw [if_pos rfl] at H; exact H
       clear H
       have H := H1
       clear H1
       by_cases c28 : x5_2 < (l0_0.length : Int)
       ·rw [if_pos c28] at H
        have c28b0 : decide (x5_2 < (l0_0.length : Int)) = true := decide_eq_true c28
        clear c28
        (first | rw [c28b0] | (simp only [i64_w, i32_w]; rw [c28b0]) | skip)
        by_cases c29 : 0 ≤ x5_2
        ·rw [if_pos c29] at H
         have c29b0 : decide (0 ≤ x5_2) = true := decide_eq_true c29
         clear c29
         by_cases c30 : x5_2 < (l0_0.length : Int)
         ·rw [if_pos c30] at H
          have c30b0 : decide (x5_2 < (l0_0.length : Int)) = true := decide_eq_true c30
          clear c30
          replace H := Option.bind_eq_some_iff.mp H
          obtain ⟨t380, A310, H⟩ := H
          replace H : (if t380 = true then (saronlaw01_sound.l0 k2 (l0_0.length : Int) (decide ((wrap64 (((rd_T26 l0_0 x5_2).f1) - ((rd_T26 l0_0 x5_2).f0))) ≤ 40)) (wrap64 (x5_2 + 1)) l0_0 l0_1 l0_2 a0_3 a0_4) else (saronlaw01_sound.l0 k2 (l0_0.length : Int) false (wrap64 (x5_2 + 1)) l0_0 l0_1 l0_2 a0_3 a0_4)) = some r := H
          have A31 := zh A310
          clear A310
          by_cases c32 : t380 = true
          ·subst c32
           have H1 : (saronlaw01_sound.l0 k2 (l0_0.length : Int) (decide ((wrap64 (((rd_T26 l0_0 x5_2).f1) - ((rd_T26 l0_0 x5_2).f0))) ≤ 40)) (wrap64 (x5_2 + 1)) l0_0 l0_1 l0_2 a0_3 a0_4) = some r := by rw [if_pos rfl] at H; exact H
           clear H
           have H := H1
           clear H1
           have H' := zh H
           clear H
           try go_wp2
           replace BK375 := zh (blk_drew BK375.out)
           replace HB := zh (below_drew1 HB.out)
           have p379 : 0 ≤ (x5_2 : Int) := of_decide_eq_true zs
           have q379 : x5_2 < (l0_0.length : Int) := of_decide_eq_true zs
           obtain ⟨ad379, e379, hx379_0, hx379_1⟩ := at_T26 HR0_0.out x5_2 p379 q379
           have hw379_1 := hx379_1
           have hw379_0 := hx379_0
           cases e379
           replace hx379_0 := ve HB.out hx379_0
           replace hx379_1 := ve HB.out hx379_1
           replace p379 := eq_true p379
           replace q379 := eq_true q379
           have p381 : 0 ≤ (x5_2 : Int) := of_decide_eq_true zs
           have q381 : x5_2 < (l0_0.length : Int) := of_decide_eq_true zs
           obtain ⟨ad381, e381, hx381_0, hx381_1⟩ := at_T26 HR0_0.out x5_2 p381 q381
           have hw381_1 := hx381_1
           have hw381_0 := hx381_0
           obtain rfl : ad379 = ad381 := (by injection e381)
           replace hx381_0 := ve HB.out hx381_0
           replace hx381_1 := ve HB.out hx381_1
           replace p381 := eq_true p381
           replace q381 := eq_true q381
           have p382 : 0 ≤ (x5_2 : Int) := of_decide_eq_true zs
           have q382 : x5_2 < (l0_0.length : Int) := of_decide_eq_true zs
           obtain ⟨ad382, e382, hx382_0, hx382_1⟩ := at_T26 HR0_0.out x5_2 p382 q382
           have hw382_1 := hx382_1
           have hw382_0 := hx382_0
           obtain rfl : ad379 = ad382 := (by injection e382)
           replace hx382_0 := ve HB.out hx382_0
           replace hx382_1 := ve HB.out hx382_1
           replace p382 := eq_true p382
           replace q382 := eq_true q382
           refine start_ (n := 23) (S := fun w' => w'.cell? ⟨gb375, 0, none⟩ = some (.slice (some ad379) l0_0.length c0_0) ∧ w'.cell? ⟨gb375, 1, none⟩ = some (.slice A0_1 l0_1.length c0_1) ∧ w'.cell? ⟨gb375, 2, none⟩ = some (.slice A0_2 l0_2.length c0_2) ∧ w'.cell? ⟨gb375, 3, none⟩ = some (.int .i64 a0_3) ∧ w'.cell? ⟨gb375, 4, none⟩ = some (.int .i64 a0_4) ∧ w'.cell? (ad379.add ((x5_2).toNat * 2)) = some (.int .i64 ((rd_T26 l0_0 x5_2).f0)) ∧ w'.cell? ⟨(ad379.add ((x5_2).toNat * 2)).block, (ad379.add ((x5_2).toNat * 2)).off + 1, none⟩ = some (.int .i64 ((rd_T26 l0_0 x5_2).f1)) ∧ w'.cell? (ad379.add ((x5_2).toNat * 2)) = some (.int .i64 ((rd_T26 l0_0 x5_2).f0)) ∧ w'.cell? ⟨(ad379.add ((x5_2).toNat * 2)).block, (ad379.add ((x5_2).toNat * 2)).off + 1, none⟩ = some (.int .i64 ((rd_T26 l0_0 x5_2).f1)) ∧ w'.cell? (ad379.add ((x5_2).toNat * 2)) = some (.int .i64 ((rd_T26 l0_0 x5_2).f0)) ∧ w'.cell? ⟨(ad379.add ((x5_2).toNat * 2)).block, (ad379.add ((x5_2).toNat * 2)).off + 1, none⟩ = some (.int .i64 ((rd_T26 l0_0 x5_2).f1))) (ds := []) (Array.replicate 23 false) zk rfl rfl ⟨vb BK375 0, vb BK375 1, vb BK375 2, vb BK375 3, vb BK375 4, (ve HB.out hw379_0 :), (ve HB.out hw379_1 :), (ve HB.out hw381_0 :), (ve HB.out hw381_1 :), (ve HB.out hw382_0 :), (ve HB.out hw382_1 :)⟩ (fun hHeld => ?_); refine with_tabW saronlaw01_sound.tab6 saronlaw01_sound.bits6 (fun HT_ HW_ => ?_)
           generalize wr.drew = w33 at BK375 HB hx379_0 hx379_1 hx381_0 hx381_1 hx382_0 hx382_1 hHeld ⊢
           refine zu 0 ?_
           refine zu 2 ?_
           refine zt 1 ?_
           refine zu 3 ?_
           refine zt 4 ?_
           refine zo 5 (fun K hK => ?_)
           refine goes_ Tryd.func46 zk rfl #[.agg #[.int .i64 ((rd_T26 l0_0 x5_2).f0), .int .i64 ((rd_T26 l0_0 x5_2).f1)], .int .i64 1, .int .i64 4000] (by rfl) rfl rfl zm ?_
           with_reducible refine (saronref00_Good.calls ((rd_T26 l0_0 x5_2).f0) ((rd_T26 l0_0 x5_2).f1) 1 4000 true _ A31.out).mono ?_
           rintro e w34 ⟨rfl, hb⟩
           refine ⟨_, rfl, ?_⟩
           have n0_ := zX BK375 hb
           have n1_ := zh (below_step zb hb)
           clear BK375 HB
           have BK375 := n0_
           have HB := n1_
           clear n0_ n1_
           (try clear hb)
           (try clear hb2)
           (try clear hk)
           (try clear hi)
           refine hK.out _ _ ⟨vb BK375 0, vb BK375 1, vb BK375 2, vb BK375 3, vb BK375 4, (ve HB.out hw379_0 :), (ve HB.out hw379_1 :), (ve HB.out hw381_0 :), (ve HB.out hw381_1 :), (ve HB.out hw382_0 :), (ve HB.out hw382_1 :)⟩ (fun hHeld => ?_)
           clear hK K
           refine zr 50 _ ?_
           refine zu 6 ?_
           refine zu 7 ?_
           refine zu 9 ?_
           refine zu 13 ?_
           refine zu 15 ?_
           refine zt 8 ?_
           refine zu 10 ?_
           refine zu 11 ?_
           refine zt 12 ?_
           refine zt 14 ?_
           refine zu 16 ?_
           refine zu 17 ?_
           refine zt 18 ?_
           refine zu 19 ?_
           refine zu 20 ?_
           refine zu 21 ?_
           refine zu 22 ?_
           refine zd ?_
           try go_wp2
           go_roundg k2
           case measure => have := HJ1.out; have := HK2.out; omega
           case rel => exact ⟨(decide ((wrap64 (((rd_T26 l0_0 x5_2).f1) - ((rd_T26 l0_0 x5_2).f0))) ≤ 40)), (wrap64 (x5_2 + 1)), ze, ze, H', ⟨zw HJ1 HK2⟩, ⟨zc BK375⟩, ⟨zb⟩⟩
          ·replace c32 := Bool.eq_false_iff.mpr c32
           subst c32
           have H1 : (saronlaw01_sound.l0 k2 (l0_0.length : Int) false (wrap64 (x5_2 + 1)) l0_0 l0_1 l0_2 a0_3 a0_4) = some r := by rw [if_neg (show ¬ (false = true) by decide)] at H; exact H
           clear H
           have H := H1
           clear H1
           have H' := zh H
           clear H
           try go_wp2
           replace BK375 := zh (blk_drew BK375.out)
           replace HB := zh (below_drew1 HB.out)
           have p379 : 0 ≤ (x5_2 : Int) := of_decide_eq_true zs
           have q379 : x5_2 < (l0_0.length : Int) := of_decide_eq_true zs
           obtain ⟨ad379, e379, hx379_0, hx379_1⟩ := at_T26 HR0_0.out x5_2 p379 q379
           have hw379_1 := hx379_1
           have hw379_0 := hx379_0
           cases e379
           replace hx379_0 := ve HB.out hx379_0
           replace hx379_1 := ve HB.out hx379_1
           replace p379 := eq_true p379
           replace q379 := eq_true q379
           refine start_ (n := 23) (S := fun w' => w'.cell? ⟨gb375, 0, none⟩ = some (.slice (some ad379) l0_0.length c0_0) ∧ w'.cell? ⟨gb375, 1, none⟩ = some (.slice A0_1 l0_1.length c0_1) ∧ w'.cell? ⟨gb375, 2, none⟩ = some (.slice A0_2 l0_2.length c0_2) ∧ w'.cell? ⟨gb375, 3, none⟩ = some (.int .i64 a0_3) ∧ w'.cell? ⟨gb375, 4, none⟩ = some (.int .i64 a0_4) ∧ w'.cell? (ad379.add ((x5_2).toNat * 2)) = some (.int .i64 ((rd_T26 l0_0 x5_2).f0)) ∧ w'.cell? ⟨(ad379.add ((x5_2).toNat * 2)).block, (ad379.add ((x5_2).toNat * 2)).off + 1, none⟩ = some (.int .i64 ((rd_T26 l0_0 x5_2).f1))) (ds := []) (Array.replicate 23 false) zk rfl rfl ⟨vb BK375 0, vb BK375 1, vb BK375 2, vb BK375 3, vb BK375 4, (ve HB.out hw379_0 :), (ve HB.out hw379_1 :)⟩ (fun hHeld => ?_); refine with_tabW saronlaw01_sound.tab6 saronlaw01_sound.bits6 (fun HT_ HW_ => ?_)
           generalize wr.drew = w35 at BK375 HB hx379_0 hx379_1 hHeld ⊢
           refine zu 0 ?_
           refine zu 2 ?_
           refine zt 1 ?_
           refine zu 3 ?_
           refine zt 4 ?_
           refine zo 5 (fun K hK => ?_)
           refine goes_ Tryd.func46 zk rfl #[.agg #[.int .i64 ((rd_T26 l0_0 x5_2).f0), .int .i64 ((rd_T26 l0_0 x5_2).f1)], .int .i64 1, .int .i64 4000] (by rfl) rfl rfl zm ?_
           with_reducible refine (saronref00_Good.calls ((rd_T26 l0_0 x5_2).f0) ((rd_T26 l0_0 x5_2).f1) 1 4000 false _ A31.out).mono ?_
           rintro e w36 ⟨rfl, hb⟩
           refine ⟨_, rfl, ?_⟩
           have n0_ := zX BK375 hb
           have n1_ := zh (below_step zb hb)
           clear BK375 HB
           have BK375 := n0_
           have HB := n1_
           clear n0_ n1_
           (try clear hb)
           (try clear hb2)
           (try clear hk)
           (try clear hi)
           refine hK.out _ _ ⟨vb BK375 0, vb BK375 1, vb BK375 2, vb BK375 3, vb BK375 4, (ve HB.out hw379_0 :), (ve HB.out hw379_1 :)⟩ (fun hHeld => ?_)
           clear hK K
           refine zr 50 _ ?_
           refine zu 6 ?_
           refine zn 7 ?_
           refine zn 8 ?_
           refine zn 9 ?_
           refine zn 10 ?_
           refine zn 11 ?_
           refine zn 12 ?_
           refine zn 13 ?_
           refine zn 14 ?_
           refine zn 15 ?_
           refine zn 16 ?_
           refine zn 17 ?_
           refine zn 18 ?_
           refine zn 19 ?_
           refine zn 20 ?_
           refine zu 21 ?_
           refine zu 22 ?_
           refine zd ?_
           try go_wp2
           go_roundg k2
           case measure => have := HJ1.out; have := HK2.out; omega
           case rel => exact ⟨(false), (wrap64 (x5_2 + 1)), ze, ze, H', ⟨zw HJ1 HK2⟩, ⟨zc BK375⟩, ⟨zb⟩⟩
         ·rw [if_neg c30] at H
          exact absurd H (by simp)
        ·rw [if_neg c29] at H
         exact absurd H (by simp)
       ·rw [if_neg c28] at H
        have c28b0 : decide (x5_2 < (l0_0.length : Int)) = false := decide_eq_false c28
        clear c28
        (first | rw [c28b0] | (simp only [i64_w, i32_w]; rw [c28b0]) | skip)
        have H' := zh H
        clear H
        go_wp2
        go_meet
        case rel => exact ⟨_, (true), ze, H', ⟨by have := HJ1.out; have := HK2.out; first | omega | exact Nat.le_refl _⟩, ⟨zc BK375⟩, ⟨zb⟩⟩
      ·replace c27 := Bool.eq_false_iff.mpr c27
       subst c27
       have H1 : (saronlaw01_sound.j2 k2 (l0_0.length : Int) false l0_0 l0_1 l0_2 a0_3 a0_4) = some r := by rw [if_neg (show ¬ (false = true) by decide)] at H; exact H
       clear H
       have H := H1
       clear H1
       have H' := zh H
       clear H
       go_wp2
       go_meet
       case rel => exact ⟨_, (false), ze, H', ⟨by have := HJ1.out; have := HK2.out; first | omega | exact Nat.le_refl _⟩, ⟨zc BK375⟩, ⟨zb⟩⟩
   case rest =>
    clear HC26
    obtain ⟨kq, x4_25, rfl, HA, HJ25, BK375, HB⟩ := hcut
    cases kq with
    | zero => exact absurd HA.out (by simp [saronlaw01_sound.j2])
    | succ kj25 =>
     have H := HA.out
     clear HA
     simp only [saronlaw01_sound.j2] at H
     have H' := zh H
     clear H
     go_wp2
     go_loopg [4, 6] kj25 (fun kq v4 v6 w' => ∃ (x4_3 : Bool) (x6_3 : Int), v4 = .bool x4_3 ∧ v6 = .int .i64 x6_3 ∧ Aside0 (saronlaw01_sound.l1 kq (l0_0.length : Int) x4_3 x6_3 l0_0 l0_1 l0_2 a0_3 a0_4 = some r) ∧ Aside0 (kq ≤ kj25) ∧ Aside0 (w'.heap[gb375]? = some (.cells #[(.slice A0_0 l0_0.length c0_0), (.slice A0_1 l0_1.length c0_1), (.slice A0_2 l0_2.length c0_2), .int .i64 a0_3, .int .i64 a0_4] 28 (0, 0))) ∧ Aside0 (Below w.heap.size w w'))
     case atStart => exact ⟨(x4_25), (0), ze, ze, H', ⟨Nat.le_refl _⟩, ⟨zc BK375⟩, ⟨zb⟩⟩
     case round =>
      clear H'
      obtain ⟨x4_3, x6_3, rfl, rfl, HA, HK3, BK375, HB⟩ := hrel
      cases gk with
      | zero => exact absurd HA.out (by simp [saronlaw01_sound.l1])
      | succ k3 =>
       have H := HA.out
       clear HA
       simp only [saronlaw01_sound.l1] at H
       have HC37 := zh H
       clear H
       go_upto_region 8 with (fail)
       go_cut [74] (fun v74 wc => ∃ (kq : Nat) (x74_36 : Bool), v74 = .bool x74_36 ∧ Aside0 (saronlaw01_sound.j4 kq (l0_0.length : Int) x4_3 x6_3 x74_36 l0_0 l0_1 l0_2 a0_3 a0_4 = some r) ∧ Aside0 (kq ≤ k3) ∧ Aside0 (wc.heap[gb375]? = some (.cells #[(.slice A0_0 l0_0.length c0_0), (.slice A0_1 l0_1.length c0_1), (.slice A0_2 l0_2.length c0_2), .int .i64 a0_3, .int .i64 a0_4] 28 (0, 0))) ∧ Aside0 (Below w.heap.size w wc))
       case first =>
        have H := HC37.out
        clear HC37
        by_cases c38 : x4_3 = true
        ·subst c38
         have H1 : (saronlaw01_sound.j4 k3 (l0_0.length : Int) true x6_3 (decide (x6_3 < (l0_1.length : Int))) l0_0 l0_1 l0_2 a0_3 a0_4) = some r := by rw [if_pos rfl] at H; exact H
         clear H
         have H := H1
         clear H1
         have H' := zh H
         clear H
         obtain ⟨hcz39_0, hcz39_1, hcz39_2, hcz39_3, hcz39_4⟩ := zC5 BK375.out
         obtain ⟨hfz39_0, hfz39_1, hfz39_2, hfz39_3, hfz39_4⟩ := zF5 BK375.out
         go_wp2
         go_meet
         case rel => exact ⟨_, (decide (x6_3 < (l0_1.length : Int))), ze, H', ⟨by have := HJ1.out; have := HJ25.out; have := HK3.out; first | omega | exact Nat.le_refl _⟩, ⟨zc BK375⟩, ⟨zb⟩⟩
        ·replace c38 := Bool.eq_false_iff.mpr c38
         subst c38
         have H1 : (saronlaw01_sound.j4 k3 (l0_0.length : Int) false x6_3 false l0_0 l0_1 l0_2 a0_3 a0_4) = some r := by rw [if_neg (show ¬ (false = true) by decide)] at H; exact H
         clear H
         have H := H1
         clear H1
         have H' := zh H
         clear H
         go_wp2
         go_meet
         case rel => exact ⟨_, (false), ze, H', ⟨by have := HJ1.out; have := HJ25.out; have := HK3.out; first | omega | exact Nat.le_refl _⟩, ⟨zc BK375⟩, ⟨zb⟩⟩
       case rest =>
        clear HC37
        obtain ⟨kq, x74_36, rfl, HA, HJ36, BK375, HB⟩ := hcut
        cases kq with
        | zero => exact absurd HA.out (by simp [saronlaw01_sound.j4])
        | succ kj36 =>
         have H := HA.out
         clear HA
         simp only [saronlaw01_sound.j4] at H
         by_cases c40 : x74_36 = true
         ·subst c40
          have H1 : (if 0 ≤ x6_3 then (if x6_3 < (l0_1.length : Int) then (if (((rd_T61 l0_1 x6_3).f0).length : Int) ≤ (l0_0.length : Int) then (saronlaw01_sound.j5 kj36 (l0_0.length : Int) ((wrap64 ((((rd_T61 l0_1 x6_3).f1).length : Int) + 1)) == (((rd_T61 l0_1 x6_3).f0).length : Int)) x6_3 l0_0 l0_1 l0_2 a0_3 a0_4 ((rd_T61 l0_1 x6_3).f0) ((rd_T61 l0_1 x6_3).f1)) else (saronlaw01_sound.j5 kj36 (l0_0.length : Int) false x6_3 l0_0 l0_1 l0_2 a0_3 a0_4 ((rd_T61 l0_1 x6_3).f0) ((rd_T61 l0_1 x6_3).f1))) else (none)) else (none)) = some r := by rw [if_pos rfl] at H; exact H
          clear H
          have H := H1
          clear H1
          by_cases c41 : 0 ≤ x6_3
          ·rw [if_pos c41] at H
           have c41b0 : decide (0 ≤ x6_3) = true := decide_eq_true c41
           clear c41
           by_cases c42 : x6_3 < (l0_1.length : Int)
           ·rw [if_pos c42] at H
            have c42b0 : decide (x6_3 < (l0_1.length : Int)) = true := decide_eq_true c42
            clear c42
            have HC43 := zh H
            clear H
            obtain ⟨hcz44_0, hcz44_1, hcz44_2, hcz44_3, hcz44_4⟩ := zC5 BK375.out
            obtain ⟨hfz44_0, hfz44_1, hfz44_2, hfz44_3, hfz44_4⟩ := zF5 BK375.out
            have p383 : 0 ≤ (x6_3 : Int) := of_decide_eq_true zs
            have q383 : x6_3 < (l0_1.length : Int) := of_decide_eq_true zs
            obtain ⟨ad383, A383_0, c383_0, A383_1, c383_1, e383, hx383_0, hx383_1, hl383_0, hi383_0, hl383_1, hi383_1⟩ := at_T61 HR0_1.out x6_3 p383 q383
            cases e383
            replace hx383_0 := ve HB.out hx383_0
            replace hx383_1 := ve HB.out hx383_1
            have HR383_0 := zh hi383_0
            have HC383_0 := zh hl383_0
            clear hi383_0 hl383_0
            have HR383_1 := zh hi383_1
            have HC383_1 := zh hl383_1
            clear hi383_1 hl383_1
            replace p383 := eq_true p383
            replace q383 := eq_true q383
            go_upto_region 11 with (first | ((with_reducible refine gate_dst (N := 7) rfl ?_); (try (refine gate_guard (by rfl) ?_; dsimp only)); refine box_event ?hg (N := 7) ?hd (cs := #[.slice none 0 0, .slice none 0 0]) (t := 61) ?hr ?_; (case hd => rfl); (case hg => rfl); (case hr => first | (go_simp; done) | (go_simp; rfl)); intro gb384 hg w45 hbox hb; have BK384 := zh (hbox); have GW384 := zh ((by rw [hg]; exact (below_size zb) : w.heap.size ≤ gb384)); have GE384 := zh ((by rw [hg]; exact (below_size zb) : w.heap.size ≤ gb384)); replace HB := zh (below_step zb hb); have NB375_384 := zh ((by rw [hg]; exact Nat.ne_of_lt (blk_lt (g := gb375) (o := .cells #[.slice A0_0 l0_0.length c0_0, .slice (some ad383) l0_1.length c0_1, .slice A0_2 l0_2.length c0_2, .int .i64 a0_3, .int .i64 a0_4] 28 (0, 0)) (zc BK375)) : gb375 ≠ gb384)); have NB384_375 := zh ((by rw [hg]; exact Nat.ne_of_gt (blk_lt (g := gb375) (o := .cells #[.slice A0_0 l0_0.length c0_0, .slice (some ad383) l0_1.length c0_1, .slice A0_2 l0_2.length c0_2, .int .i64 a0_3, .int .i64 a0_4] 28 (0, 0)) (zc BK375)) : gb384 ≠ gb375)); replace BK375 := zX BK375 hb; clear hb hbox hg; have hnb46 := NB384_375.out; have hnc46 := NB375_384.out; obtain ⟨hcz47_0, hcz47_1⟩ := zC2 BK384.out; obtain ⟨hfz47_0, hfz47_1⟩ := zF2 BK384.out))
            (try simp only [Act.put, List.setIfInBounds_toArray, List.set_cons_zero, List.set_cons_succ])
            go_cut [4] (fun v4 wc => ∃ (kq : Nat) (x4_42 : Bool), v4 = .bool x4_42 ∧ Aside0 (saronlaw01_sound.j5 kq (l0_0.length : Int) x4_42 x6_3 l0_0 l0_1 l0_2 a0_3 a0_4 ((rd_T61 l0_1 x6_3).f0) ((rd_T61 l0_1 x6_3).f1) = some r) ∧ Aside0 (kq ≤ kj36) ∧ Aside0 (wc.heap[gb375]? = some (.cells #[(.slice A0_0 l0_0.length c0_0), (.slice (some ad383) l0_1.length c0_1), (.slice A0_2 l0_2.length c0_2), .int .i64 a0_3, .int .i64 a0_4] 28 (0, 0))) ∧ Aside0 (wc.heap[gb384]? = some (.cells #[(.slice A383_0 ((rd_T61 l0_1 x6_3).f0).length c383_0), (.slice A383_1 ((rd_T61 l0_1 x6_3).f1).length c383_1)] 61 (0, 0))) ∧ Aside0 (Below w.heap.size w wc))
            case first =>
             have H := HC43.out
             clear HC43
             by_cases c48 : (((rd_T61 l0_1 x6_3).f0).length : Int) ≤ (l0_0.length : Int)
             ·rw [if_pos c48] at H
              have c48b0 : decide ((((rd_T61 l0_1 x6_3).f0).length : Int) ≤ (l0_0.length : Int)) = true := decide_eq_true c48
              have c48b1 : decide (((rd_T61 l0_1 x6_3).f0).length ≤ l0_0.length) = true := decide_eq_true (Int.ofNat_le.mp c48)
              clear c48
              (first | rw [c48b0] | (simp only [i64_w, i32_w]; rw [c48b0]) | skip)
              have H' := zh H
              clear H
              have hnb49 := NB384_375.out
              have hnc49 := NB375_384.out
              obtain ⟨hcz50_0, hcz50_1⟩ := zC2 BK384.out
              obtain ⟨hfz50_0, hfz50_1⟩ := zF2 BK384.out
              go_wp2
              go_meet
              case rel => exact ⟨_, (((wrap64 ((((rd_T61 l0_1 x6_3).f1).length : Int) + 1)) == (((rd_T61 l0_1 x6_3).f0).length : Int))), ze, H', ⟨by have := HJ1.out; have := HJ25.out; have := HK3.out; have := HJ36.out; first | omega | exact Nat.le_refl _⟩, ⟨by (with_reducible repeat (first | refine blk_drewN ?_ _ | refine blk_drew ?_ | refine blk_alloc ?_ _)); refine blk_far ?_ NB375_384.out _; (with_reducible repeat (first | refine blk_drewN ?_ _ | refine blk_drew ?_ | refine blk_alloc ?_ _)); refine blk_far ?_ NB375_384.out _; (with_reducible repeat (first | refine blk_drewN ?_ _ | refine blk_drew ?_ | refine blk_alloc ?_ _)); exact BK375.out⟩, ⟨by (with_reducible repeat (first | refine blk_drewN ?_ _ | refine blk_drew ?_ | refine blk_alloc ?_ _)); refine blk_put (cs := #[.slice A383_0 ((rd_T61 l0_1 x6_3).f0).length c383_0, .slice none 0 0]) ?_ 1 _ rfl; (with_reducible repeat (first | refine blk_drewN ?_ _ | refine blk_drew ?_ | refine blk_alloc ?_ _)); refine blk_put (cs := #[.slice none 0 0, .slice none 0 0]) ?_ 0 _ rfl; (with_reducible repeat (first | refine blk_drewN ?_ _ | refine blk_drew ?_ | refine blk_alloc ?_ _)); exact BK384.out⟩, ⟨zb⟩⟩
             ·rw [if_neg c48] at H
              have c48b0 : decide ((((rd_T61 l0_1 x6_3).f0).length : Int) ≤ (l0_0.length : Int)) = false := decide_eq_false c48
              have c48b1 : decide (((rd_T61 l0_1 x6_3).f0).length ≤ l0_0.length) = false := decide_eq_false (fun h => c48 (Int.ofNat_le.mpr h))
              clear c48
              (first | rw [c48b0] | (simp only [i64_w, i32_w]; rw [c48b0]) | skip)
              have H' := zh H
              clear H
              have hnb51 := NB384_375.out
              have hnc51 := NB375_384.out
              obtain ⟨hcz52_0, hcz52_1⟩ := zC2 BK384.out
              obtain ⟨hfz52_0, hfz52_1⟩ := zF2 BK384.out
              go_wp2
              go_meet
              case rel => exact ⟨_, (false), ze, H', ⟨by have := HJ1.out; have := HJ25.out; have := HK3.out; have := HJ36.out; first | omega | exact Nat.le_refl _⟩, ⟨by (with_reducible repeat (first | refine blk_drewN ?_ _ | refine blk_drew ?_ | refine blk_alloc ?_ _)); refine blk_far ?_ NB375_384.out _; (with_reducible repeat (first | refine blk_drewN ?_ _ | refine blk_drew ?_ | refine blk_alloc ?_ _)); refine blk_far ?_ NB375_384.out _; (with_reducible repeat (first | refine blk_drewN ?_ _ | refine blk_drew ?_ | refine blk_alloc ?_ _)); exact BK375.out⟩, ⟨by (with_reducible repeat (first | refine blk_drewN ?_ _ | refine blk_drew ?_ | refine blk_alloc ?_ _)); refine blk_put (cs := #[.slice A383_0 ((rd_T61 l0_1 x6_3).f0).length c383_0, .slice none 0 0]) ?_ 1 _ rfl; (with_reducible repeat (first | refine blk_drewN ?_ _ | refine blk_drew ?_ | refine blk_alloc ?_ _)); refine blk_put (cs := #[.slice none 0 0, .slice none 0 0]) ?_ 0 _ rfl; (with_reducible repeat (first | refine blk_drewN ?_ _ | refine blk_drew ?_ | refine blk_alloc ?_ _)); exact BK384.out⟩, ⟨zb⟩⟩
            case rest =>
             clear HC43 c41b0 c42b0 hcz44_0 hcz44_1 hcz44_2 hcz44_3 hcz44_4 hcz47_0 hcz47_1 hfz44_0 hfz44_1 hfz44_2 hfz44_3 hfz44_4 hfz47_0 hfz47_1 hx383_0 hx383_1 p383 q383
             obtain ⟨kq, x4_42, rfl, HA, HJ42, BK375, BK384, HB⟩ := hcut
             cases kq with
             | zero => exact absurd HA.out (by simp [saronlaw01_sound.j5])
             | succ kj42 =>
              have H := HA.out
              clear HA
              simp only [saronlaw01_sound.j5] at H
              have H' := zh H
              clear H
              go_wp2
              go_loopg [4, 8] kj42 (fun kq v4 v8 w' => ∃ (x4_6 : Bool) (x8_6 : Int), v4 = .bool x4_6 ∧ v8 = .int .i64 x8_6 ∧ Aside0 (saronlaw01_sound.l2 kq (l0_0.length : Int) x4_6 x6_3 x8_6 l0_0 l0_1 l0_2 a0_3 a0_4 ((rd_T61 l0_1 x6_3).f0) ((rd_T61 l0_1 x6_3).f1) = some r) ∧ Aside0 (kq ≤ kj42) ∧ Aside0 (w'.heap[gb375]? = some (.cells #[(.slice A0_0 l0_0.length c0_0), (.slice (some ad383) l0_1.length c0_1), (.slice A0_2 l0_2.length c0_2), .int .i64 a0_3, .int .i64 a0_4] 28 (0, 0))) ∧ Aside0 (w'.heap[gb384]? = some (.cells #[(.slice A383_0 ((rd_T61 l0_1 x6_3).f0).length c383_0), (.slice A383_1 ((rd_T61 l0_1 x6_3).f1).length c383_1)] 61 (0, 0))) ∧ Aside0 (Below w.heap.size w w'))
              case atStart => exact ⟨(x4_42), (0), ze, ze, H', ⟨Nat.le_refl _⟩, ⟨zc BK375⟩, ⟨zc BK384⟩, ⟨zb⟩⟩
              case round =>
               clear H'
               obtain ⟨x4_6, x8_6, rfl, rfl, HA, HK6, BK375, BK384, HB⟩ := hrel
               cases gk with
               | zero => exact absurd HA.out (by simp [saronlaw01_sound.l2])
               | succ k6 =>
                have H := HA.out
                clear HA
                simp only [saronlaw01_sound.l2] at H
                have HC53 := zh H
                clear H
                go_upto_region 13 with (fail)
                go_cut [104] (fun v104 wc => ∃ (kq : Nat) (x104_52 : Bool), v104 = .bool x104_52 ∧ Aside0 (saronlaw01_sound.j7 kq (l0_0.length : Int) x4_6 x6_3 x8_6 x104_52 l0_0 l0_1 l0_2 a0_3 a0_4 ((rd_T61 l0_1 x6_3).f0) ((rd_T61 l0_1 x6_3).f1) = some r) ∧ Aside0 (kq ≤ k6) ∧ Aside0 (wc.heap[gb375]? = some (.cells #[(.slice A0_0 l0_0.length c0_0), (.slice (some ad383) l0_1.length c0_1), (.slice A0_2 l0_2.length c0_2), .int .i64 a0_3, .int .i64 a0_4] 28 (0, 0))) ∧ Aside0 (wc.heap[gb384]? = some (.cells #[(.slice A383_0 ((rd_T61 l0_1 x6_3).f0).length c383_0), (.slice A383_1 ((rd_T61 l0_1 x6_3).f1).length c383_1)] 61 (0, 0))) ∧ Aside0 (Below w.heap.size w wc))
                case first =>
                 have H := HC53.out
                 clear HC53
                 by_cases c54 : x4_6 = true
                 ·subst c54
                  have H1 : (saronlaw01_sound.j7 k6 (l0_0.length : Int) true x6_3 x8_6 (decide (x8_6 < (((rd_T61 l0_1 x6_3).f0).length : Int))) l0_0 l0_1 l0_2 a0_3 a0_4 ((rd_T61 l0_1 x6_3).f0) ((rd_T61 l0_1 x6_3).f1)) = some r := by rw [if_pos rfl] at H; exact H
                  clear H
                  have H := H1
                  clear H1
                  have H' := zh H
                  clear H
                  have hnb55 := NB384_375.out
                  have hnc55 := NB375_384.out
                  obtain ⟨hcz56_0, hcz56_1⟩ := zC2 BK384.out
                  obtain ⟨hfz56_0, hfz56_1⟩ := zF2 BK384.out
                  go_wp2
                  go_meet
                  case rel => exact ⟨_, (decide (x8_6 < (((rd_T61 l0_1 x6_3).f0).length : Int))), ze, H', ⟨by have := HJ1.out; have := HJ25.out; have := HK3.out; have := HJ36.out; have := HJ42.out; have := HK6.out; first | omega | exact Nat.le_refl _⟩, ⟨zc BK375⟩, ⟨zc BK384⟩, ⟨zb⟩⟩
                 ·replace c54 := Bool.eq_false_iff.mpr c54
                  subst c54
                  have H1 : (saronlaw01_sound.j7 k6 (l0_0.length : Int) false x6_3 x8_6 false l0_0 l0_1 l0_2 a0_3 a0_4 ((rd_T61 l0_1 x6_3).f0) ((rd_T61 l0_1 x6_3).f1)) = some r := by rw [if_neg (show ¬ (false = true) by decide)] at H; exact H
                  clear H
                  have H := H1
                  clear H1
                  have H' := zh H
                  clear H
                  go_wp2
                  go_meet
                  case rel => exact ⟨_, (false), ze, H', ⟨by have := HJ1.out; have := HJ25.out; have := HK3.out; have := HJ36.out; have := HJ42.out; have := HK6.out; first | omega | exact Nat.le_refl _⟩, ⟨zc BK375⟩, ⟨zc BK384⟩, ⟨zb⟩⟩
                case rest =>
                 clear HC53
                 obtain ⟨kq, x104_52, rfl, HA, HJ52, BK375, BK384, HB⟩ := hcut
                 cases kq with
                 | zero => exact absurd HA.out (by simp [saronlaw01_sound.j7])
                 | succ kj52 =>
                  have H := HA.out
                  clear HA
                  simp only [saronlaw01_sound.j7] at H
                  by_cases c57 : x104_52 = true
                  ·subst c57
                   have H1 : (if 0 ≤ x8_6 then (if x8_6 < (((rd_T61 l0_1 x6_3).f0).length : Int) then ((saronref00_Sits.f (rd ((rd_T61 l0_1 x6_3).f0) x8_6) 0 (wrap64 ((l0_0.length : Int) - 1))).bind fun t386 => (if t386 = true then (if x8_6 = 0 then (saronlaw01_sound.l2 kj52 (l0_0.length : Int) true x6_3 (wrap64 (x8_6 + 1)) l0_0 l0_1 l0_2 a0_3 a0_4 ((rd_T61 l0_1 x6_3).f0) ((rd_T61 l0_1 x6_3).f1)) else (if 0 ≤ (wrap64 (x8_6 - 1)) then (if (wrap64 (x8_6 - 1)) < (((rd_T61 l0_1 x6_3).f1).length : Int) then ((saronref00_Good.f ((rd_T26 ((rd_T61 l0_1 x6_3).f1) (wrap64 (x8_6 - 1))).f0) ((rd_T26 ((rd_T61 l0_1 x6_3).f1) (wrap64 (x8_6 - 1))).f1) 1 5000).bind fun t388 => (saronlaw01_sound.l2 kj52 (l0_0.length : Int) t388 x6_3 (wrap64 (x8_6 + 1)) l0_0 l0_1 l0_2 a0_3 a0_4 ((rd_T61 l0_1 x6_3).f0) ((rd_T61 l0_1 x6_3).f1))) else (none)) else (none))) else (saronlaw01_sound.l2 kj52 (l0_0.length : Int) false x6_3 (wrap64 (x8_6 + 1)) l0_0 l0_1 l0_2 a0_3 a0_4 ((rd_T61 l0_1 x6_3).f0) ((rd_T61 l0_1 x6_3).f1)))) else (none)) else (none)) = some r := by rw [if_pos rfl] at H; exact H
                   clear H
                   have H := H1
                   clear H1
                   by_cases c58 : 0 ≤ x8_6
                   ·rw [if_pos c58] at H
                    have c58b0 : decide (0 ≤ x8_6) = true := decide_eq_true c58
                    clear c58
                    by_cases c59 : x8_6 < (((rd_T61 l0_1 x6_3).f0).length : Int)
                    ·rw [if_pos c59] at H
                     have c59b0 : decide (x8_6 < (((rd_T61 l0_1 x6_3).f0).length : Int)) = true := decide_eq_true c59
                     clear c59
                     replace H := Option.bind_eq_some_iff.mp H
                     obtain ⟨t386, A600, H⟩ := H
                     replace H : (if t386 = true then (if x8_6 = 0 then (saronlaw01_sound.l2 kj52 (l0_0.length : Int) true x6_3 (wrap64 (x8_6 + 1)) l0_0 l0_1 l0_2 a0_3 a0_4 ((rd_T61 l0_1 x6_3).f0) ((rd_T61 l0_1 x6_3).f1)) else (if 0 ≤ (wrap64 (x8_6 - 1)) then (if (wrap64 (x8_6 - 1)) < (((rd_T61 l0_1 x6_3).f1).length : Int) then ((saronref00_Good.f ((rd_T26 ((rd_T61 l0_1 x6_3).f1) (wrap64 (x8_6 - 1))).f0) ((rd_T26 ((rd_T61 l0_1 x6_3).f1) (wrap64 (x8_6 - 1))).f1) 1 5000).bind fun t388 => (saronlaw01_sound.l2 kj52 (l0_0.length : Int) t388 x6_3 (wrap64 (x8_6 + 1)) l0_0 l0_1 l0_2 a0_3 a0_4 ((rd_T61 l0_1 x6_3).f0) ((rd_T61 l0_1 x6_3).f1))) else (none)) else (none))) else (saronlaw01_sound.l2 kj52 (l0_0.length : Int) false x6_3 (wrap64 (x8_6 + 1)) l0_0 l0_1 l0_2 a0_3 a0_4 ((rd_T61 l0_1 x6_3).f0) ((rd_T61 l0_1 x6_3).f1))) = some r := H
                     have A60 := zh A600
                     clear A600
                     by_cases c61 : t386 = true
                     ·subst c61
                      have H1 : (if x8_6 = 0 then (saronlaw01_sound.l2 kj52 (l0_0.length : Int) true x6_3 (wrap64 (x8_6 + 1)) l0_0 l0_1 l0_2 a0_3 a0_4 ((rd_T61 l0_1 x6_3).f0) ((rd_T61 l0_1 x6_3).f1)) else (if 0 ≤ (wrap64 (x8_6 - 1)) then (if (wrap64 (x8_6 - 1)) < (((rd_T61 l0_1 x6_3).f1).length : Int) then ((saronref00_Good.f ((rd_T26 ((rd_T61 l0_1 x6_3).f1) (wrap64 (x8_6 - 1))).f0) ((rd_T26 ((rd_T61 l0_1 x6_3).f1) (wrap64 (x8_6 - 1))).f1) 1 5000).bind fun t388 => (saronlaw01_sound.l2 kj52 (l0_0.length : Int) t388 x6_3 (wrap64 (x8_6 + 1)) l0_0 l0_1 l0_2 a0_3 a0_4 ((rd_T61 l0_1 x6_3).f0) ((rd_T61 l0_1 x6_3).f1))) else (none)) else (none))) = some r := by rw [if_pos rfl] at H; exact H
                      clear H
                      have H := H1
                      clear H1
                      by_cases c62 : x8_6 = 0
                      ·rw [if_pos c62] at H
                       have c62b0 : (x8_6 == 0) = true := beq_iff_eq.mpr c62
                       have c62b1 : (x8_6 != 0) = false := bne_eq_false_iff_eq.mpr c62
                       clear c62
                       have H' := zh H
                       clear H
                       have hnb63 := NB384_375.out
                       have hnc63 := NB375_384.out
                       obtain ⟨hcz64_0, hcz64_1⟩ := zC2 BK384.out
                       obtain ⟨hfz64_0, hfz64_1⟩ := zF2 BK384.out
                       have p385 : 0 ≤ (x8_6 : Int) := of_decide_eq_true zs
                       have q385 : x8_6 < (((rd_T61 l0_1 x6_3).f0).length : Int) := of_decide_eq_true zs
                       obtain ⟨ad385, e385, hx385_0⟩ := Kd.at_int HR383_0.out x8_6 p385 q385
                       cases e385
                       replace hx385_0 := ve HB.out hx385_0
                       replace p385 := eq_true p385
                       replace q385 := eq_true q385
                       go_wp2_with (first | ((with_reducible refine gate_callee (f := 59) rfl ?_); refine goesL_ (some 114) rfl rfl Tryd.func59 zk rfl #[.int .i64 (rd ((rd_T61 l0_1 x6_3).f0) x8_6), .int .i64 0, .int .i64 (wrap64 ((l0_0.length : Int) - 1))] rfl zm ?_; (with_reducible refine (saronref00_Sits.calls (rd ((rd_T61 l0_1 x6_3).f0) x8_6) 0 (wrap64 ((l0_0.length : Int) - 1)) true _ A60.out).mono ?_); rintro e w' ⟨rfl, ⟨nd, rfl⟩⟩; refine ⟨_, rfl, ?_⟩))
                       go_roundg kj52
                       case measure => have := HJ1.out; have := HJ25.out; have := HK3.out; have := HJ36.out; have := HJ42.out; have := HK6.out; have := HJ52.out; omega
                       case rel => exact ⟨(true), (wrap64 (x8_6 + 1)), ze, ze, H', ⟨by have := HJ1.out; have := HJ25.out; have := HK3.out; have := HJ36.out; have := HJ42.out; have := HK6.out; have := HJ52.out; omega⟩, ⟨zc BK375⟩, ⟨zc BK384⟩, ⟨zb⟩⟩
                      ·rw [if_neg c62] at H
                       have c62b0 : (x8_6 == 0) = false := beq_eq_false_iff_ne.mpr c62
                       have c62b1 : (x8_6 != 0) = true := bne_iff_ne.mpr c62
                       obtain ⟨ji65, hji65⟩ : ∃ j_ : Int, (wrap64 (x8_6 - 1)) = j_ := ⟨_, rfl⟩
                       replace H : (if 0 ≤ (ji65) then (if (ji65) < (((rd_T61 l0_1 x6_3).f1).length : Int) then ((saronref00_Good.f ((rd_T26 ((rd_T61 l0_1 x6_3).f1) (ji65)).f0) ((rd_T26 ((rd_T61 l0_1 x6_3).f1) (ji65)).f1) 1 5000).bind fun t388 => (saronlaw01_sound.l2 kj52 (l0_0.length : Int) t388 x6_3 (wrap64 (x8_6 + 1)) l0_0 l0_1 l0_2 a0_3 a0_4 ((rd_T61 l0_1 x6_3).f0) ((rd_T61 l0_1 x6_3).f1))) else (none)) else (none)) = some r := by first | (rw [hji65] at H; exact H) | (simp only [hji65] at H ⊢; exact H)
                       (try rw [hji65] at A60)
                       have hji65w : (IntKind.i64.wrap (x8_6 - 1)) = ji65 := (i64_w _).trans hji65
                       by_cases c66 : 0 ≤ (ji65)
                       ·rw [if_pos c66] at H
                        have c66b0 : decide (0 ≤ (ji65)) = true := decide_eq_true c66
                        clear c66
                        by_cases c67 : (ji65) < (((rd_T61 l0_1 x6_3).f1).length : Int)
                        ·rw [if_pos c67] at H
                         have c67b0 : decide ((ji65) < (((rd_T61 l0_1 x6_3).f1).length : Int)) = true := decide_eq_true c67
                         clear c67
                         replace H := Option.bind_eq_some_iff.mp H
                         obtain ⟨t388, A680, H⟩ := H
                         replace H : (saronlaw01_sound.l2 kj52 (l0_0.length : Int) t388 x6_3 (wrap64 (x8_6 + 1)) l0_0 l0_1 l0_2 a0_3 a0_4 ((rd_T61 l0_1 x6_3).f0) ((rd_T61 l0_1 x6_3).f1)) = some r := H
                         have A68 := zh A680
                         clear A680
                         have H' := zh H
                         clear H
                         have hnb69 := NB384_375.out
                         have hnc69 := NB375_384.out
                         obtain ⟨hcz70_0, hcz70_1⟩ := zC2 BK384.out
                         obtain ⟨hfz70_0, hfz70_1⟩ := zF2 BK384.out
                         have p385 : 0 ≤ (x8_6 : Int) := of_decide_eq_true zs
                         have q385 : x8_6 < (((rd_T61 l0_1 x6_3).f0).length : Int) := of_decide_eq_true zs
                         obtain ⟨ad385, e385, hx385_0⟩ := Kd.at_int HR383_0.out x8_6 p385 q385
                         cases e385
                         replace hx385_0 := ve HB.out hx385_0
                         replace p385 := eq_true p385
                         replace q385 := eq_true q385
                         go_wp2_with (first | ((with_reducible refine gate_callee (f := 59) rfl ?_); refine goesL_ (some 114) rfl rfl Tryd.func59 zk rfl #[.int .i64 (rd ((rd_T61 l0_1 x6_3).f0) x8_6), .int .i64 0, .int .i64 (wrap64 ((l0_0.length : Int) - 1))] rfl zm ?_; (with_reducible refine (saronref00_Sits.calls (rd ((rd_T61 l0_1 x6_3).f0) x8_6) 0 (wrap64 ((l0_0.length : Int) - 1)) true _ A60.out).mono ?_); rintro e w' ⟨rfl, ⟨nd, rfl⟩⟩; refine ⟨_, rfl, ?_⟩; have p387 : 0 ≤ ((ji65) : Int) := of_decide_eq_true zs; have q387 : (ji65) < (((rd_T61 l0_1 x6_3).f1).length : Int) := of_decide_eq_true zs; obtain ⟨ad387, e387, hx387_0, hx387_1⟩ := at_T26 HR383_1.out (ji65) p387 q387; cases e387; replace hx387_0 := (HB.out.cell (World.block_lt_of_cell? w _ hx387_0)).trans hx387_0; replace hx387_1 := (HB.out.cell (World.block_lt_of_cell? w _ hx387_1)).trans hx387_1; replace p387 := eq_true p387; replace q387 := eq_true q387) | (go_at_call 46; (with_reducible refine (saronref00_Good.calls ((rd_T26 ((rd_T61 l0_1 x6_3).f1) (ji65)).f0) ((rd_T26 ((rd_T61 l0_1 x6_3).f1) (ji65)).f1) 1 5000 t388 _ A68.out).mono ?_); rintro e w71 ⟨rfl, hb⟩; replace BK375 := zX BK375 hb; replace BK384 := zX BK384 hb; replace HB := zh (below_step zb hb); (try clear hb); (try clear hb2); (try clear hk); (try clear hi)))
                         go_roundg kj52
                         case measure => have := HJ1.out; have := HJ25.out; have := HK3.out; have := HJ36.out; have := HJ42.out; have := HK6.out; have := HJ52.out; omega
                         case rel => exact ⟨(t388), (wrap64 (x8_6 + 1)), ze, ze, H', ⟨by have := HJ1.out; have := HJ25.out; have := HK3.out; have := HJ36.out; have := HJ42.out; have := HK6.out; have := HJ52.out; omega⟩, ⟨zc BK375⟩, ⟨zc BK384⟩, ⟨zb⟩⟩
                        ·rw [if_neg c67] at H
                         exact absurd H (by simp)
                       ·rw [if_neg c66] at H
                        exact absurd H (by simp)
                     ·replace c61 := Bool.eq_false_iff.mpr c61
                      subst c61
                      have H1 : (saronlaw01_sound.l2 kj52 (l0_0.length : Int) false x6_3 (wrap64 (x8_6 + 1)) l0_0 l0_1 l0_2 a0_3 a0_4 ((rd_T61 l0_1 x6_3).f0) ((rd_T61 l0_1 x6_3).f1)) = some r := by rw [if_neg (show ¬ (false = true) by decide)] at H; exact H
                      clear H
                      have H := H1
                      clear H1
                      have H' := zh H
                      clear H
                      have hnb72 := NB384_375.out
                      have hnc72 := NB375_384.out
                      obtain ⟨hcz73_0, hcz73_1⟩ := zC2 BK384.out
                      obtain ⟨hfz73_0, hfz73_1⟩ := zF2 BK384.out
                      have p385 : 0 ≤ (x8_6 : Int) := of_decide_eq_true zs
                      have q385 : x8_6 < (((rd_T61 l0_1 x6_3).f0).length : Int) := of_decide_eq_true zs
                      obtain ⟨ad385, e385, hx385_0⟩ := Kd.at_int HR383_0.out x8_6 p385 q385
                      cases e385
                      replace hx385_0 := ve HB.out hx385_0
                      replace p385 := eq_true p385
                      replace q385 := eq_true q385
                      go_wp2_with (first | ((with_reducible refine gate_callee (f := 59) rfl ?_); refine goesL_ (some 114) rfl rfl Tryd.func59 zk rfl #[.int .i64 (rd ((rd_T61 l0_1 x6_3).f0) x8_6), .int .i64 0, .int .i64 (wrap64 ((l0_0.length : Int) - 1))] rfl zm ?_; (with_reducible refine (saronref00_Sits.calls (rd ((rd_T61 l0_1 x6_3).f0) x8_6) 0 (wrap64 ((l0_0.length : Int) - 1)) false _ A60.out).mono ?_); rintro e w' ⟨rfl, ⟨nd, rfl⟩⟩; refine ⟨_, rfl, ?_⟩))
                      go_roundg kj52
                      case measure => have := HJ1.out; have := HJ25.out; have := HK3.out; have := HJ36.out; have := HJ42.out; have := HK6.out; have := HJ52.out; omega
                      case rel => exact ⟨(false), (wrap64 (x8_6 + 1)), ze, ze, H', ⟨by have := HJ1.out; have := HJ25.out; have := HK3.out; have := HJ36.out; have := HJ42.out; have := HK6.out; have := HJ52.out; omega⟩, ⟨zc BK375⟩, ⟨zc BK384⟩, ⟨zb⟩⟩
                    ·rw [if_neg c59] at H
                     exact absurd H (by simp)
                   ·rw [if_neg c58] at H
                    exact absurd H (by simp)
                  ·replace c57 := Bool.eq_false_iff.mpr c57
                   subst c57
                   have H1 : (saronlaw01_sound.l1 kj52 (l0_0.length : Int) x4_6 (wrap64 (x6_3 + 1)) l0_0 l0_1 l0_2 a0_3 a0_4) = some r := by rw [if_neg (show ¬ (false = true) by decide)] at H; exact H
                   clear H
                   have H := H1
                   clear H1
                   have H' := zh H
                   clear H
                   go_wp2
                   go_roundg kj52
                   case measure => have := HJ1.out; have := HJ25.out; have := HK3.out; have := HJ36.out; have := HJ42.out; have := HK6.out; have := HJ52.out; omega
                   case rel => exact ⟨(x4_6), (wrap64 (x6_3 + 1)), ze, ze, H', ⟨by have := HJ1.out; have := HJ25.out; have := HK3.out; have := HJ36.out; have := HJ42.out; have := HK6.out; have := HJ52.out; omega⟩, ⟨zc BK375⟩, ⟨zb⟩⟩
           ·rw [if_neg c42] at H
            exact absurd H (by simp)
          ·rw [if_neg c41] at H
           exact absurd H (by simp)
         ·replace c40 := Bool.eq_false_iff.mpr c40
          subst c40
          have H1 : (saronlaw01_sound.l3 kj36 (l0_0.length : Int) x4_3 0 l0_0 l0_1 l0_2 a0_3 a0_4) = some r := by rw [if_neg (show ¬ (false = true) by decide)] at H; exact H
          clear H
          have H := H1
          clear H1
          have H' := zh H
          clear H
          go_wp2
          go_loopg [4, 9] kj36 (fun kq v4 v9 w' => ∃ (x4_5 : Bool) (x9_5 : Int), v4 = .bool x4_5 ∧ v9 = .int .i64 x9_5 ∧ Aside0 (saronlaw01_sound.l3 kq (l0_0.length : Int) x4_5 x9_5 l0_0 l0_1 l0_2 a0_3 a0_4 = some r) ∧ Aside0 (kq ≤ kj36) ∧ Aside0 (w'.heap[gb375]? = some (.cells #[(.slice A0_0 l0_0.length c0_0), (.slice A0_1 l0_1.length c0_1), (.slice A0_2 l0_2.length c0_2), .int .i64 a0_3, .int .i64 a0_4] 28 (0, 0))) ∧ Aside0 (Below w.heap.size w w'))
          case atStart => exact ⟨(x4_3), (0), ze, ze, H', ⟨Nat.le_refl _⟩, ⟨zc BK375⟩, ⟨zb⟩⟩
          case round =>
           clear H'
           obtain ⟨x4_5, x9_5, rfl, rfl, HA, HK5, BK375, HB⟩ := hrel
           cases gk with
           | zero => exact absurd HA.out (by simp [saronlaw01_sound.l3])
           | succ k5 =>
            have H := HA.out
            clear HA
            simp only [saronlaw01_sound.l3] at H
            have HC74 := zh H
            clear H
            go_upto_region 17 with (fail)
            go_cut [135] (fun v135 wc => ∃ (kq : Nat) (x135_73 : Bool), v135 = .bool x135_73 ∧ Aside0 (saronlaw01_sound.j9 kq (l0_0.length : Int) x4_5 x9_5 x135_73 l0_0 l0_1 l0_2 a0_3 a0_4 = some r) ∧ Aside0 (kq ≤ k5) ∧ Aside0 (wc.heap[gb375]? = some (.cells #[(.slice A0_0 l0_0.length c0_0), (.slice A0_1 l0_1.length c0_1), (.slice A0_2 l0_2.length c0_2), .int .i64 a0_3, .int .i64 a0_4] 28 (0, 0))) ∧ Aside0 (Below w.heap.size w wc))
            case first =>
             have H := HC74.out
             clear HC74
             by_cases c75 : x4_5 = true
             ·subst c75
              have H1 : (saronlaw01_sound.j9 k5 (l0_0.length : Int) true x9_5 (decide (x9_5 < (l0_2.length : Int))) l0_0 l0_1 l0_2 a0_3 a0_4) = some r := by rw [if_pos rfl] at H; exact H
              clear H
              have H := H1
              clear H1
              have H' := zh H
              clear H
              obtain ⟨hcz76_0, hcz76_1, hcz76_2, hcz76_3, hcz76_4⟩ := zC5 BK375.out
              obtain ⟨hfz76_0, hfz76_1, hfz76_2, hfz76_3, hfz76_4⟩ := zF5 BK375.out
              go_wp2
              go_meet
              case rel => exact ⟨_, (decide (x9_5 < (l0_2.length : Int))), ze, H', ⟨by have := HJ1.out; have := HJ25.out; have := HK3.out; have := HJ36.out; have := HK5.out; first | omega | exact Nat.le_refl _⟩, ⟨zc BK375⟩, ⟨zb⟩⟩
             ·replace c75 := Bool.eq_false_iff.mpr c75
              subst c75
              have H1 : (saronlaw01_sound.j9 k5 (l0_0.length : Int) false x9_5 false l0_0 l0_1 l0_2 a0_3 a0_4) = some r := by rw [if_neg (show ¬ (false = true) by decide)] at H; exact H
              clear H
              have H := H1
              clear H1
              have H' := zh H
              clear H
              go_wp2
              go_meet
              case rel => exact ⟨_, (false), ze, H', ⟨by have := HJ1.out; have := HJ25.out; have := HK3.out; have := HJ36.out; have := HK5.out; first | omega | exact Nat.le_refl _⟩, ⟨zc BK375⟩, ⟨zb⟩⟩
            case rest =>
             clear HC74
             obtain ⟨kq, x135_73, rfl, HA, HJ73, BK375, HB⟩ := hcut
             cases kq with
             | zero => exact absurd HA.out (by simp [saronlaw01_sound.j9])
             | succ kj73 =>
              have H := HA.out
              clear HA
              simp only [saronlaw01_sound.j9] at H
              by_cases c77 : x135_73 = true
              ·subst c77
               have H1 : (if 0 ≤ x9_5 then (if x9_5 < (l0_2.length : Int) then ((saronref00_Sits.f ((rd_T48 l0_2 x9_5).f0) 0 (wrap64 ((l0_0.length : Int) - 1))).bind fun t390 => (if t390 = true then ((saronref00_Sits.f ((rd_T48 l0_2 x9_5).f1) 0 (wrap64 ((l0_0.length : Int) - 1))).bind fun t392 => (saronlaw01_sound.l3 kj73 (l0_0.length : Int) t392 (wrap64 (x9_5 + 1)) l0_0 l0_1 l0_2 a0_3 a0_4)) else (saronlaw01_sound.l3 kj73 (l0_0.length : Int) false (wrap64 (x9_5 + 1)) l0_0 l0_1 l0_2 a0_3 a0_4))) else (none)) else (none)) = some r := by rw [if_pos rfl] at H; exact H
               clear H
               have H := H1
               clear H1
               by_cases c78 : 0 ≤ x9_5
               ·rw [if_pos c78] at H
                have c78b0 : decide (0 ≤ x9_5) = true := decide_eq_true c78
                clear c78
                by_cases c79 : x9_5 < (l0_2.length : Int)
                ·rw [if_pos c79] at H
                 have c79b0 : decide (x9_5 < (l0_2.length : Int)) = true := decide_eq_true c79
                 clear c79
                 replace H := Option.bind_eq_some_iff.mp H
                 obtain ⟨t390, A800, H⟩ := H
                 replace H : (if t390 = true then ((saronref00_Sits.f ((rd_T48 l0_2 x9_5).f1) 0 (wrap64 ((l0_0.length : Int) - 1))).bind fun t392 => (saronlaw01_sound.l3 kj73 (l0_0.length : Int) t392 (wrap64 (x9_5 + 1)) l0_0 l0_1 l0_2 a0_3 a0_4)) else (saronlaw01_sound.l3 kj73 (l0_0.length : Int) false (wrap64 (x9_5 + 1)) l0_0 l0_1 l0_2 a0_3 a0_4)) = some r := H
                 have A80 := zh A800
                 clear A800
                 by_cases c81 : t390 = true
                 ·subst c81
                  have H1 : ((saronref00_Sits.f ((rd_T48 l0_2 x9_5).f1) 0 (wrap64 ((l0_0.length : Int) - 1))).bind fun t392 => (saronlaw01_sound.l3 kj73 (l0_0.length : Int) t392 (wrap64 (x9_5 + 1)) l0_0 l0_1 l0_2 a0_3 a0_4)) = some r := by rw [if_pos rfl] at H; exact H
                  clear H
                  have H := H1
                  clear H1
                  replace H := Option.bind_eq_some_iff.mp H
                  obtain ⟨t392, A820, H⟩ := H
                  replace H : (saronlaw01_sound.l3 kj73 (l0_0.length : Int) t392 (wrap64 (x9_5 + 1)) l0_0 l0_1 l0_2 a0_3 a0_4) = some r := H
                  have A82 := zh A820
                  clear A820
                  have H' := zh H
                  clear H
                  obtain ⟨hcz83_0, hcz83_1, hcz83_2, hcz83_3, hcz83_4⟩ := zC5 BK375.out
                  obtain ⟨hfz83_0, hfz83_1, hfz83_2, hfz83_3, hfz83_4⟩ := zF5 BK375.out
                  have p389 : 0 ≤ (x9_5 : Int) := of_decide_eq_true zs
                  have q389 : x9_5 < (l0_2.length : Int) := of_decide_eq_true zs
                  obtain ⟨ad389, e389, hx389_0, hx389_1⟩ := at_T48 HR0_2.out x9_5 p389 q389
                  cases e389
                  replace hx389_0 := ve HB.out hx389_0
                  replace hx389_1 := ve HB.out hx389_1
                  replace p389 := eq_true p389
                  replace q389 := eq_true q389
                  go_wp2_with (first | ((with_reducible refine gate_callee (f := 59) rfl ?_); refine goesL_ (some 146) rfl rfl Tryd.func59 zk rfl #[.int .i64 ((rd_T48 l0_2 x9_5).f0), .int .i64 0, .int .i64 (wrap64 ((l0_0.length : Int) - 1))] rfl zm ?_; (with_reducible refine (saronref00_Sits.calls ((rd_T48 l0_2 x9_5).f0) 0 (wrap64 ((l0_0.length : Int) - 1)) true _ A80.out).mono ?_); rintro e w' ⟨rfl, ⟨nd, rfl⟩⟩; refine ⟨_, rfl, ?_⟩; have p391 : 0 ≤ (x9_5 : Int) := of_decide_eq_true zs; have q391 : x9_5 < (l0_2.length : Int) := of_decide_eq_true zs; obtain ⟨ad391, e391, hx391_0, hx391_1⟩ := at_T48 HR0_2.out x9_5 p391 q391; obtain rfl : ad389 = ad391 := (by injection e391); replace hx391_0 := (HB.out.cell (World.block_lt_of_cell? w _ hx391_0)).trans hx391_0; replace hx391_1 := (HB.out.cell (World.block_lt_of_cell? w _ hx391_1)).trans hx391_1; replace p391 := eq_true p391; replace q391 := eq_true q391) | (go_at_call 59; (with_reducible refine (saronref00_Sits.calls ((rd_T48 l0_2 x9_5).f1) 0 (wrap64 ((l0_0.length : Int) - 1)) t392 _ A82.out).mono ?_); rintro e w' ⟨rfl, ⟨nd, rfl⟩⟩))
                  go_roundg kj73
                  case measure => have := HJ1.out; have := HJ25.out; have := HK3.out; have := HJ36.out; have := HK5.out; have := HJ73.out; omega
                  case rel => exact ⟨(t392), (wrap64 (x9_5 + 1)), ze, ze, H', ⟨by have := HJ1.out; have := HJ25.out; have := HK3.out; have := HJ36.out; have := HK5.out; have := HJ73.out; omega⟩, ⟨zc BK375⟩, ⟨zb⟩⟩
                 ·replace c81 := Bool.eq_false_iff.mpr c81
                  subst c81
                  have H1 : (saronlaw01_sound.l3 kj73 (l0_0.length : Int) false (wrap64 (x9_5 + 1)) l0_0 l0_1 l0_2 a0_3 a0_4) = some r := by rw [if_neg (show ¬ (false = true) by decide)] at H; exact H
                  clear H
                  have H := H1
                  clear H1
                  have H' := zh H
                  clear H
                  obtain ⟨hcz84_0, hcz84_1, hcz84_2, hcz84_3, hcz84_4⟩ := zC5 BK375.out
                  obtain ⟨hfz84_0, hfz84_1, hfz84_2, hfz84_3, hfz84_4⟩ := zF5 BK375.out
                  have p389 : 0 ≤ (x9_5 : Int) := of_decide_eq_true zs
                  have q389 : x9_5 < (l0_2.length : Int) := of_decide_eq_true zs
                  obtain ⟨ad389, e389, hx389_0, hx389_1⟩ := at_T48 HR0_2.out x9_5 p389 q389
                  cases e389
                  replace hx389_0 := ve HB.out hx389_0
                  replace hx389_1 := ve HB.out hx389_1
                  replace p389 := eq_true p389
                  replace q389 := eq_true q389
                  go_wp2_with (first | ((with_reducible refine gate_callee (f := 59) rfl ?_); refine goesL_ (some 146) rfl rfl Tryd.func59 zk rfl #[.int .i64 ((rd_T48 l0_2 x9_5).f0), .int .i64 0, .int .i64 (wrap64 ((l0_0.length : Int) - 1))] rfl zm ?_; (with_reducible refine (saronref00_Sits.calls ((rd_T48 l0_2 x9_5).f0) 0 (wrap64 ((l0_0.length : Int) - 1)) false _ A80.out).mono ?_); rintro e w' ⟨rfl, ⟨nd, rfl⟩⟩; refine ⟨_, rfl, ?_⟩))
                  go_roundg kj73
                  case measure => have := HJ1.out; have := HJ25.out; have := HK3.out; have := HJ36.out; have := HK5.out; have := HJ73.out; omega
                  case rel => exact ⟨(false), (wrap64 (x9_5 + 1)), ze, ze, H', ⟨by have := HJ1.out; have := HJ25.out; have := HK3.out; have := HJ36.out; have := HK5.out; have := HJ73.out; omega⟩, ⟨zc BK375⟩, ⟨zb⟩⟩
                ·rw [if_neg c79] at H
                 exact absurd H (by simp)
               ·rw [if_neg c78] at H
                exact absurd H (by simp)
              ·replace c77 := Bool.eq_false_iff.mpr c77
               subst c77
               have H1 : (some x4_5) = some r := by rw [if_neg (show ¬ (false = true) by decide)] at H; exact H
               clear H
               have H := H1
               clear H1
               obtain rfl := Option.some.inj H
               go_wp2
               go_ret
               exact ⟨zf, zb⟩
end Go.Proofs.YtgehkojccmkggaaDoor.H
end
section
namespace Go.Proofs.YtgehkojccmkggaaDoor.K
open Go.RowKit Go.Shelf Go.Proofs.YtgehkojccmkggaaDoorW.PrintWords Go.Proofs.YtgehkojccmkggaaDoorW.PrintLast Go.Proofs.YtgehkojccmkggaaDoorW.PrintMore Go.Proofs.YtgehkojccmkggaaDoor.H Tune
set_option linter.unusedVariables false
set_option linter.unusedSimpArgs false
attribute [local go_sem] Oper.semAt_some
theorem le_mono {α : Type} {F : Nat → Option α} (hm : ∀ k, LeO (F k) (F (k + 1))) {k k' : Nat} {r : α} (h : F k = some r) (hk : k ≤ k') : F k' = some r := by
 induction hk with
 | refl => exact h
 | step _ ih => exact hm _ _ ih
theorem good_f (a b lo hi : Int) : saronref00_Good.f a b lo hi = some (okSpan ⟨a, b⟩ lo hi) := by
 unfold saronref00_Good.f okSpan
 by_cases h1 : lo ≤ a
 ·rw [if_pos h1, decide_eq_true h1]
  by_cases h2 : a ≤ b
  ·rw [if_pos h2, decide_eq_true h2]; rfl
  ·rw [if_neg h2, decide_eq_false h2]; rfl
 ·rw [if_neg h1, decide_eq_false h1]; rfl
theorem sits_f (n a b : Int) : saronref00_Sits.f n a b = some (decide (a ≤ n) && decide (n ≤ b)) := by
 unfold saronref00_Sits.f
 by_cases h : a ≤ n
 ·rw [if_pos h, decide_eq_true h]; rfl
 ·rw [if_neg h, decide_eq_false h]; rfl
theorem sits_in (n : Nat) (k : Int) (hn : n ≤ 4000000) : saronref00_Sits.f k 0 (wrap64 ((n : Int) - 1)) = some (inK n k) := by
 rw [sits_f, w64 (by omega) (by omega)]
 rfl
theorem rd26_at (l : List S26) (i : Nat) (h : i < l.length) : rd_T26 l (i : Int) = l[i] := by unfold rd_T26; rw [Int.toNat_natCast]; simp [List.getD_eq_getElem?_getD, h]
theorem rd61_at (l : List S61) (i : Nat) (h : i < l.length) : rd_T61 l (i : Int) = l[i] := by unfold rd_T61; rw [Int.toNat_natCast]; simp [List.getD_eq_getElem?_getD, h]
theorem rd48_at (l : List S48) (i : Nat) (h : i < l.length) : rd_T48 l (i : Int) = l[i] := by unfold rd_T48; rw [Int.toNat_natCast]; simp [List.getD_eq_getElem?_getD, h]
theorem rd_at (l : List Int) (i : Nat) (h : i < l.length) : rd l (i : Int) = l[i] := by unfold rd; rw [Int.toNat_natCast]; simp [List.getD_eq_getElem?_getD, h]
theorem wsucc (i : Nat) (h : i ≤ 100000000) : wrap64 ((i : Int) + 1) = ((i + 1 : Nat) : Int) := by rw [w64 (by omega) (by omega)]; omega
theorem pigeon : ∀ (n : Nat) (l : List Int), l.Nodup → (∀ x ∈ l, 0 ≤ x ∧ x < (n : Int)) → l.length ≤ n := by
 intro n
 induction n with
 | zero =>
  intro l _ h
  cases l with
  | nil => exact Nat.le_refl _
  | cons a l => have := h a (List.mem_cons_self ..); omega
 | succ n ih =>
  intro l hl h
  have h1 := ih (l.erase (n : Int)) (hl.erase _) (fun x hx => by
   have h2 := h x (List.mem_of_mem_erase hx)
   have h3 : x ≠ (n : Int) := fun e => by rw [e] at hx; exact hl.not_mem_erase hx
   omega)
  have h4 := List.length_erase (a := (n : Int)) (l := l)
  rw [h4] at h1
  split at h1 <;> omega
theorem noRep_nodup (l : List Int) (h : noRep l l.length = true) : l.Nodup := by
 unfold noRep at h
 rw [List.all_eq_true] at h
 rw [List.nodup_iff_pairwise_ne, List.pairwise_iff_getElem]
 intro i j hi hj hij e
 have h1 := h j (List.mem_range.2 hj)
 simp only [Bool.not_eq_true', List.contains_eq_mem, decide_eq_false_iff_not] at h1
 apply h1
 have h2 : l.getD j 0 = l[j] := by simp [List.getD_eq_getElem?_getD, hj]
 rw [h2, ← e]
 refine List.mem_iff_getElem.2 ⟨i, by rw [List.length_take]; omega, by rw [List.getElem_take]⟩
end Go.Proofs.YtgehkojccmkggaaDoor.K
end
section
namespace Go.Proofs.YtgehkojccmkggaaDoor.K
open Go.RowKit Go.Shelf Go.Proofs.YtgehkojccmkggaaDoorW.PrintWords Go.Proofs.YtgehkojccmkggaaDoorW.PrintLast Go.Proofs.YtgehkojccmkggaaDoorW.PrintMore Go.Proofs.YtgehkojccmkggaaDoor.H Tune
set_option linter.unusedVariables false
set_option linter.unusedSimpArgs false
attribute [local go_sem] Oper.semAt_some
theorem scale_ok {n : Nat} {x : S61} : ∀ (l : List Nat) (st : List S80 × Bool), (l.foldl (scaleStep n x) st).2 = true → st.2 = true ∧ ∀ i ∈ l, inK n (x.f0.getD i 0) = true := by
 intro l
 induction l with
 | nil => intro st h; exact ⟨h, fun i hi => by cases hi⟩
 | cons a l ih =>
  intro st h
  rw [List.foldl_cons] at h
  obtain ⟨h1, h2⟩ := ih _ h
  unfold scaleStep at h1
  dsimp only at h1
  rw [Bool.and_eq_true] at h1
  refine ⟨h1.1, fun i hi => ?_⟩
  rcases List.mem_cons.1 hi with rfl | hi
  ·exact h1.2
  ·exact h2 i hi
theorem scales_ok {n : Nat} : ∀ (s : List S61) (st : List S80 × Bool), (s.foldl (scaleJ n) st).2 = true → st.2 = true ∧ ∀ x ∈ s, ∀ k ∈ x.f0, inK n k = true := by
 intro s
 induction s with
 | nil => intro st h; exact ⟨h, fun x hx => by cases hx⟩
 | cons a s ih =>
  intro st h
  rw [List.foldl_cons] at h
  obtain ⟨h1, h2⟩ := ih _ h
  obtain ⟨h3, h4⟩ := scale_ok _ _ h1
  refine ⟨h3, fun x hx k hk => ?_⟩
  rcases List.mem_cons.1 hx with rfl | hx
  ·obtain ⟨i, hi, rfl⟩ := List.mem_iff_getElem.1 hk
   have h5 := h4 i (List.mem_range.2 hi)
   rw [show x.f0.getD i 0 = x.f0[i] by simp [List.getD_eq_getElem?_getD, hi]] at h5
   exact h5
  ·exact h2 x hx k hk
theorem pairs_ok {n : Nat} {b0 b1 : Int} : ∀ (p : List S48) (st : List S80 × Bool), (p.foldl (pairStep n b0 b1) st).2 = true → st.2 = true ∧ ∀ q ∈ p, inK n q.f0 = true ∧ inK n q.f1 = true := by
 intro p
 induction p with
 | nil => intro st h; exact ⟨h, fun x hx => by cases hx⟩
 | cons a p ih =>
  intro st h
  rw [List.foldl_cons] at h
  obtain ⟨h1, h2⟩ := ih _ h
  unfold pairStep at h1
  dsimp only at h1
  rw [Bool.and_eq_true, Bool.and_eq_true] at h1
  refine ⟨h1.1.1, fun q hq => ?_⟩
  rcases List.mem_cons.1 hq with rfl | hq
  ·exact ⟨h1.1.2, h1.2⟩
  ·exact h2 q hq
structure Neat (h : List S26) (s : List S61) (p : List S48) (b0 b1 : Int) : Prop where
 few : 1 ≤ h.length ∧ h.length ≤ 8
 scales : s.length ≤ 2
 pairs : p.length ≤ 4
 beat : okSpan ⟨b0, b1⟩ 0 60 = true
 heard : ∀ x ∈ h, okHeard x = true
 scale : ∀ x ∈ s, x.f0.length ≤ h.length ∧ 0 < x.f0.length ∧ x.f1.length + 1 = x.f0.length ∧ (∀ k ∈ x.f0, inK h.length k = true) ∧ ∀ y ∈ x.f1, okSpan y 200 5000 = true
 pair : ∀ q ∈ p, inK h.length q.f0 = true ∧ inK h.length q.f1 = true
theorem neat_of {h : List S26} {s : List S61} {p : List S48} {b0 b1 : Int} (hc : checkT h s p b0 b1 = 0) : Neat h s p b0 b1 := by
 obtain ⟨h1, _⟩ := checkT_eq hc
 unfold okAll at h1
 simp only [Bool.and_eq_true] at h1
 obtain ⟨⟨⟨h0, hh⟩, hs⟩, hj⟩ := h1
 unfold ok0 at h0
 simp only [Bool.and_eq_true, decide_eq_true_eq] at h0
 unfold jointsT at hj
 obtain ⟨hj1, hj2⟩ := pairs_ok _ _ hj
 obtain ⟨_, hj3⟩ := scales_ok _ _ hj1
 rw [List.all_eq_true] at hh hs
 refine ⟨by omega, by omega, by omega, h0.2.2.2.2, hh, fun x hx => ?_, hj2⟩
 have h5 := hs x hx
 unfold okScale okLen at h5
 simp only [Bool.and_eq_true, decide_eq_true_eq] at h5
 obtain ⟨⟨⟨h6, h7⟩, h8⟩, h9⟩ := h5
 rw [List.all_eq_true] at h9
 refine ⟨pigeon _ _ (noRep_nodup _ h8) (fun k hk => ?_), h6, by omega, hj3 x hx, h9⟩
 have h10 := hj3 x hx k hk
 unfold inK at h10
 simp only [Bool.and_eq_true, decide_eq_true_eq] at h10
 omega
section
variable {h : List S26} {s : List S61} {p : List S48} {b0 b1 : Int}
theorem sound_l3 (N : Neat h s p b0 b1) : ∀ (d i : Nat), i + d = p.length → ∃ k, saronlaw01_sound.l3 k (h.length : Int) true (i : Int) h s p b0 b1 = some true := by
 have hn := N.few
 have hp := N.pairs
 intro d
 induction d with
 | zero =>
  intro i hi
  exact ⟨2, by rw [saronlaw01_sound.l3, if_pos rfl, saronlaw01_sound.j9, if_neg (by simp; omega)]⟩
 | succ d ih =>
  intro i hi
  obtain ⟨k, hk⟩ := ih (i + 1) (by omega)
  have hlt : i < p.length := by omega
  obtain ⟨q1, q2⟩ := N.pair _ (List.getElem_mem hlt)
  refine ⟨k + 2, ?_⟩
  rw [saronlaw01_sound.l3, if_pos rfl, saronlaw01_sound.j9, if_pos (by simp; omega), if_pos (by omega), if_pos (by omega), rd48_at _ _ hlt, sits_in _ _ (by omega), q1]
  simp only [Option.bind_some, if_true]
  rw [sits_in _ _ (by omega), q2, wsucc _ (by omega)]
  exact hk
theorem sound_l1 (N : Neat h s p b0 b1) : ∀ (d i : Nat), i + d = s.length → ∃ k, saronlaw01_sound.l1 k (h.length : Int) true (i : Int) h s p b0 b1 = some true := by
 have hn := N.few
 have hs := N.scales
 intro d
 induction d with
 | zero =>
  intro i hi
  obtain ⟨k, hk⟩ := sound_l3 N p.length 0 (by omega)
  exact ⟨k + 2, by rw [saronlaw01_sound.l1, if_pos rfl, saronlaw01_sound.j4, if_neg (by simp; omega)]; exact hk⟩
 | succ d ih =>
  intro i hi
  have hlt : i < s.length := by omega
  obtain ⟨s1, s2, s3, s4, s5⟩ := N.scale _ (List.getElem_mem hlt)
  have inner : ∀ (e j : Nat), j + e = (s[i]).f0.length → ∃ k, saronlaw01_sound.l2 k (h.length : Int) true (i : Int) (j : Int) h s p b0 b1 (s[i]).f0 (s[i]).f1 = some true := by
   intro e
   induction e with
   | zero =>
    intro j hj
    obtain ⟨k, hk⟩ := ih (i + 1) (by omega)
    exact ⟨k + 2, by rw [saronlaw01_sound.l2, if_pos rfl, saronlaw01_sound.j7, if_neg (by simp; omega), wsucc _ (by omega)]; exact hk⟩
   | succ e ihe =>
    intro j hj
    obtain ⟨k, hk⟩ := ihe (j + 1) (by omega)
    have hjl : j < (s[i]).f0.length := by omega
    refine ⟨k + 2, ?_⟩
    rw [saronlaw01_sound.l2, if_pos rfl, saronlaw01_sound.j7, if_pos (by simp; omega), if_pos (by omega), if_pos (by omega), rd_at _ _ hjl, sits_in _ _ (by omega), s4 _ (List.getElem_mem hjl)]
    simp only [Option.bind_some, if_true]
    by_cases hj0 : j = 0
    ·subst hj0
     rw [if_pos (by omega), wsucc _ (by omega)]
     exact hk
    ·have hw : wrap64 ((j : Int) - 1) = ((j - 1 : Nat) : Int) := by rw [w64 (by omega) (by omega)]; omega
     have hjm : j - 1 < (s[i]).f1.length := by omega
     have hg := s5 _ (List.getElem_mem hjm)
     have hg2 : okSpan ⟨((s[i]).f1[j - 1]).f0, ((s[i]).f1[j - 1]).f1⟩ 1 5000 = true := by
      unfold okSpan at hg ⊢
      simp only [Bool.and_eq_true, decide_eq_true_eq] at hg ⊢
      omega
     rw [if_neg (by omega), hw, if_pos (by omega), if_pos (by omega), rd26_at _ _ hjm, good_f, hg2, wsucc _ (by omega)]
     exact hk
  obtain ⟨k, hk⟩ := inner (s[i]).f0.length 0 (by omega)
  refine ⟨k + 3, ?_⟩
  have hlen : ((wrap64 (((s[i]).f1.length : Int) + 1)) == ((s[i]).f0.length : Int)) = true := by
   rw [wsucc _ (by omega), beq_iff_eq]
   omega
  rw [saronlaw01_sound.l1, if_pos rfl, saronlaw01_sound.j4, if_pos (by simp; omega), if_pos (by omega), if_pos (by omega), rd61_at _ _ hlt, if_pos (by omega), hlen, saronlaw01_sound.j5]
  exact hk
theorem sound_l0 (N : Neat h s p b0 b1) : ∀ (d i : Nat), i + d = h.length → ∃ k, saronlaw01_sound.l0 k (h.length : Int) true (i : Int) h s p b0 b1 = some true := by
 have hn := N.few
 intro d
 induction d with
 | zero =>
  intro i hi
  obtain ⟨k, hk⟩ := sound_l1 N s.length 0 (by omega)
  exact ⟨k + 2, by rw [saronlaw01_sound.l0, if_pos rfl, if_neg (by omega), saronlaw01_sound.j2]; exact hk⟩
 | succ d ih =>
  intro i hi
  obtain ⟨k, hk⟩ := ih (i + 1) (by omega)
  have hlt : i < h.length := by omega
  have hh := N.heard _ (List.getElem_mem hlt)
  unfold okHeard at hh
  simp only [Bool.and_eq_true, decide_eq_true_eq] at hh
  have h2 := hh.1
  unfold okSpan at h2
  simp only [Bool.and_eq_true, decide_eq_true_eq] at h2
  have hd : decide (wrap64 ((h[i]).f1 - (h[i]).f0) ≤ 40) = true := by rw [w64 (by omega) (by omega)]; exact decide_eq_true hh.2
  refine ⟨k + 1, ?_⟩
  rw [saronlaw01_sound.l0, if_pos rfl, if_pos (by omega), if_pos (by omega), if_pos (by omega), rd26_at _ _ hlt, good_f, show okSpan ⟨(h[i]).f0, (h[i]).f1⟩ 1 4000 = true from hh.1]
  simp only [Option.bind_some, if_true]
  rw [hd, wsucc _ (by omega)]
  exact hk
end
theorem sound_law {h : List S26} {s : List S61} {p : List S48} {b0 b1 : Int} (hsm : small h s p = true) : ∃ K, ∀ k, K ≤ k → saronlaw01_sound.f k h s p b0 b1 = some (decide (checkT h s p b0 b1 = 0)) := by
 have hm : ∀ k, LeO (saronlaw01_sound.f k h s p b0 b1) (saronlaw01_sound.f (k + 1) h s p b0 b1) := saronlaw01_sound.mono h s p b0 b1
 suffices H : ∃ K, saronlaw01_sound.f K h s p b0 b1 = some (decide (checkT h s p b0 b1 = 0)) by
  obtain ⟨K, hK⟩ := H
  exact ⟨K, fun k hk => le_mono (F := fun k => saronlaw01_sound.f k h s p b0 b1) hm hK hk⟩
 by_cases hc : checkT h s p b0 b1 = 0
 ·have N := neat_of hc
  obtain ⟨k, hk⟩ := sound_l0 N h.length 0 (by omega)
  have hn := N.few
  refine ⟨k + 1, ?_⟩
  unfold saronlaw01_sound.f tune_Check.f
  rw [if_pos hsm, hc]
  simp only [Option.bind_some, if_true]
  rw [sits_f, decide_eq_true (by omega), decide_eq_true (by omega)]
  simp only [Bool.and_self, Option.bind_some, if_true]
  rw [if_pos (by have := N.scales; omega), if_pos (by have := N.pairs; omega), good_f, N.beat]
  simp only [Option.bind_some]
  rw [saronlaw01_sound.j0]
  exact hk.trans (by simp)
 ·refine ⟨7, ?_⟩
  unfold saronlaw01_sound.f tune_Check.f
  rw [if_pos hsm]
  simp only [Option.bind_some]
  rw [if_neg hc, decide_eq_false hc]
  rfl
end Go.Proofs.YtgehkojccmkggaaDoor.K
end
section
namespace Go.Proofs.YtgehkojccmkggaaDoor.K
open Go.RowKit Go.Shelf Go.Proofs.YtgehkojccmkggaaDoorW.PrintWords Go.Proofs.YtgehkojccmkggaaDoorW.PrintLast Go.Proofs.YtgehkojccmkggaaDoorW.PrintMore Go.Proofs.YtgehkojccmkggaaDoor.H Tune
set_option linter.unusedVariables false
set_option linter.unusedSimpArgs false
attribute [local go_sem] Oper.semAt_some
def TunS (h : List S26) (js : List J) (b : Int × Int) (l : Nat → Int) : Prop := Tun h.length js noLeft b (loH h) (hiH h) (okG []) l
theorem okG_two (k1 k2 : Nat) (x y : Int) (hk : k1 ≠ k2) (z : Nat) (v : Int) : okG [((k1 : Int), x), ((k2 : Int), y)] z v = (if z = k1 then decide (x = v) else if z = k2 then decide (y = v) else true) := by
 unfold okG
 by_cases h1 : z = k1
 ·subst h1; simp
 ·rw [if_neg h1]
  by_cases h2 : z = k2
  ·subst h2
   have h3 : ¬ ((z : Int) = (k1 : Int)) := by omega
   simp [h3]
  ·rw [if_neg h2]
   have h3 : ¬ ((z : Int) = (k1 : Int)) := by omega
   have h4 : ¬ ((z : Int) = (k2 : Int)) := by omega
   simp [h3, h4]
theorem pair_iff {h : List S26} {js : List J} (F : Fine h js) {b : Int × Int} {k1 k2 : Nat} (h1 : k1 < h.length) (h2 : k2 < h.length) (hk : k1 ≠ k2) {p q : Int} : tunS h js noLeft b [((k1 : Int), p), ((k2 : Int), q)] = true ↔ ∃ l, TunS h js b l ∧ l k1 = p ∧ l k2 = q := by
 rw [tunS_iff F.joins]
 unfold Tunable TunS Tun
 constructor
 ·rintro ⟨l, g1, g2⟩
  refine ⟨l, ⟨fun x hx hl => ⟨(g1 x hx hl).1, (g1 x hx hl).2.1, rfl⟩, g2⟩, ?_, ?_⟩
  ·have := (g1 k1 h1 rfl).2.2
   rw [okG_two _ _ _ _ hk, if_pos rfl] at this
   exact (of_decide_eq_true this).symm
  ·have := (g1 k2 h2 rfl).2.2
   rw [okG_two _ _ _ _ hk, if_neg (Ne.symm hk), if_pos rfl] at this
   exact (of_decide_eq_true this).symm
 ·rintro ⟨l, ⟨g1, g2⟩, e1, e2⟩
  refine ⟨l, fun x hx hl => ⟨(g1 x hx hl).1, (g1 x hx hl).2.1, ?_⟩, g2⟩
  rw [okG_two _ _ _ _ hk]
  split
  ·rename_i e; rw [e, e1]; exact decide_eq_true rfl
  ·split
   ·rename_i e; rw [e, e2]; exact decide_eq_true rfl
   ·rfl
def ApInv (T : Int → Int → Bool) (S : Int → Int → Prop) (st : (Int × Int) × Bool) : Prop :=
 (∀ p q, S p q → T p q = true → st.2 = true ∧ st.1.1 ≤ q - p ∧ q - p ≤ st.1.2) ∧ (st.2 = true → (∃ p q, S p q ∧ T p q = true ∧ q - p = st.1.1) ∧ ∃ p q, S p q ∧ T p q = true ∧ q - p = st.1.2)
theorem ApInv.mono {T : Int → Int → Bool} {S S' : Int → Int → Prop} {st : (Int × Int) × Bool} (h : ApInv T S st) (hs : ∀ p q, S p q ↔ S' p q) : ApInv T S' st := by
 have e : S = S' := by funext p q; exact propext (hs p q)
 rw [← e]
 exact h
theorem ApInv.step {T : Int → Int → Bool} {S : Int → Int → Prop} {st : (Int × Int) × Bool} (h : ApInv T S st) (p q : Int) : ApInv T (fun x y => S x y ∨ (x = p ∧ y = q)) (apartStep T p st q) := by
 obtain ⟨⟨o0, o1⟩, fd⟩ := st
 obtain ⟨h1, h2⟩ := h
 unfold apartStep
 dsimp only at h1 h2 ⊢
 split
 ·rename_i hc
  simp only [Bool.and_eq_true, decide_eq_true_eq] at hc
  refine ⟨fun x y hs ht => ?_, fun hf => ?_⟩
  ·rcases hs with hs | ⟨rfl, rfl⟩
   ·exact h1 x y hs ht
   ·exact hc
  ·obtain ⟨⟨x, y, e1, e2, e3⟩, ⟨x', y', e4, e5, e6⟩⟩ := h2 hf
   exact ⟨⟨x, y, .inl e1, e2, e3⟩, ⟨x', y', .inl e4, e5, e6⟩⟩
 ·rename_i hc
  split
  ·rename_i hT
   cases fd with
   | false =>
    refine ⟨fun x y hs ht => ?_, fun _ => ⟨⟨p, q, .inr ⟨rfl, rfl⟩, hT, rfl⟩, ⟨p, q, .inr ⟨rfl, rfl⟩, hT, rfl⟩⟩⟩
    rcases hs with hs | ⟨rfl, rfl⟩
    ·have := (h1 x y hs ht).1; cases this
    ·exact ⟨rfl, Int.le_refl _, Int.le_refl _⟩
   | true =>
    rw [if_pos rfl]
    obtain ⟨⟨x, y, e1, e2, e3⟩, ⟨x', y', e4, e5, e6⟩⟩ := h2 rfl
    refine ⟨fun a b hs ht => ?_, fun _ => ⟨?_, ?_⟩⟩
    ·dsimp only
     rcases hs with hs | ⟨rfl, rfl⟩
     ·have := h1 a b hs ht
      refine ⟨rfl, ?_, ?_⟩ <;> split <;> omega
     ·refine ⟨rfl, ?_, ?_⟩ <;> split <;> omega
    ·dsimp only
     split
     ·exact ⟨p, q, .inr ⟨rfl, rfl⟩, hT, rfl⟩
     ·exact ⟨x, y, .inl e1, e2, e3⟩
    ·dsimp only
     split
     ·exact ⟨p, q, .inr ⟨rfl, rfl⟩, hT, rfl⟩
     ·exact ⟨x', y', .inl e4, e5, e6⟩
  ·rename_i hT
   refine ⟨fun x y hs ht => ?_, fun hf => ?_⟩
   ·rcases hs with hs | ⟨rfl, rfl⟩
    ·exact h1 x y hs ht
    ·exact absurd ht hT
   ·obtain ⟨⟨x, y, e1, e2, e3⟩, ⟨x', y', e4, e5, e6⟩⟩ := h2 hf
    exact ⟨⟨x, y, .inl e1, e2, e3⟩, ⟨x', y', .inl e4, e5, e6⟩⟩
theorem ApInv.row {T : Int → Int → Bool} (p : Int) : ∀ (L : List Int) (S : Int → Int → Prop) (st : (Int × Int) × Bool), ApInv T S st → ApInv T (fun x y => S x y ∨ (x = p ∧ y ∈ L)) (L.foldl (apartStep T p) st) := by
 intro L
 induction L with
 | nil => intro S st h; exact h.mono fun x y => by simp
 | cons q L ih =>
  intro S st h
  rw [List.foldl_cons]
  refine (ih _ _ (h.step p q)).mono fun x y => ?_
  simp only [List.mem_cons]
  constructor
  ·rintro ((h | ⟨h1, h2⟩) | ⟨h1, h2⟩)
   ·exact .inl h
   ·exact .inr ⟨h1, .inl h2⟩
   ·exact .inr ⟨h1, .inr h2⟩
  ·rintro (h | ⟨h1, h2 | h2⟩)
   ·exact .inl (.inl h)
   ·exact .inl (.inr ⟨h1, h2⟩)
   ·exact .inr ⟨h1, h2⟩
theorem ApInv.all {T : Int → Int → Bool} (L2 : List Int) : ∀ (L1 : List Int) (S : Int → Int → Prop) (st : (Int × Int) × Bool), ApInv T S st → ApInv T (fun x y => S x y ∨ (x ∈ L1 ∧ y ∈ L2)) (L1.foldl (fun st p => L2.foldl (apartStep T p) st) st) := by
 intro L1
 induction L1 with
 | nil => intro S st h; exact h.mono fun x y => by simp
 | cons p L1 ih =>
  intro S st h
  rw [List.foldl_cons]
  refine (ih _ _ (ApInv.row p L2 _ _ h)).mono fun x y => ?_
  simp only [List.mem_cons]
  constructor
  ·rintro ((h | ⟨h1, h2⟩) | ⟨h1, h2⟩)
   ·exact .inl h
   ·exact .inr ⟨.inl h1, h2⟩
   ·exact .inr ⟨.inr h1, h2⟩
  ·rintro (h | ⟨h1 | h1, h2⟩)
   ·exact .inl (.inl h)
   ·exact .inl (.inr ⟨h1, h2⟩)
   ·exact .inr ⟨h1, h2⟩
def IsRange (h : List S26) (js : List J) (b : Int × Int) (a c : Nat) (r : Int × Int) : Prop :=
 (∀ l, TunS h js b l → r.1 ≤ l c - l a ∧ l c - l a ≤ r.2) ∧ (∃ l, TunS h js b l ∧ l c - l a = r.1) ∧ ∃ l, TunS h js b l ∧ l c - l a = r.2
theorem tun_some {h : List S26} {js : List J} (F : Fine h js) {b : Int × Int} : tunS h js noLeft b [] = true ↔ ∃ l, TunS h js b l := tunS_iff F.joins
theorem apartF_range {h : List S26} {js : List J} (F : Fine h js) {b : Int × Int} {a c : Nat} (ha : a < h.length) (hc : c < h.length) (hac : a ≠ c) (hT : tunS h js noLeft b [] = true) : IsRange h js b a c (apartF h js b a c) := by
 have hI := ApInv.all (T := fun p q => tunS h js noLeft b [((a : Int), p), ((c : Int), q)]) (pitL h js b c) (pitL h js b a) (fun _ _ => False) ((0, 0), false) ⟨fun _ _ h => h.elim, fun h => by cases h⟩
 obtain ⟨h1, h2⟩ := hI
 have hin : ∀ l, TunS h js b l → l a ∈ pitL h js b a ∧ l c ∈ pitL h js b c ∧ tunS h js noLeft b [((a : Int), l a), ((c : Int), l c)] = true := fun l hl =>
  ⟨mem_pitL.2 ⟨(hl.1 a ha rfl).1, (hl.1 a ha rfl).2.1, (pit_iff F ha).2 ⟨l, hl, rfl⟩⟩, mem_pitL.2 ⟨(hl.1 c hc rfl).1, (hl.1 c hc rfl).2.1, (pit_iff F hc).2 ⟨l, hl, rfl⟩⟩, (pair_iff F ha hc hac).2 ⟨l, hl, rfl, rfl⟩⟩
 have hall : ∀ l, TunS h js b l → _ := fun l hl => h1 (l a) (l c) (.inr ⟨(hin l hl).1, (hin l hl).2.1⟩) (hin l hl).2.2
 obtain ⟨l0, hl0⟩ := (tun_some F).1 hT
 obtain ⟨⟨p, q, _, t1, e1⟩, ⟨p', q', _, t2, e2⟩⟩ := h2 (hall l0 hl0).1
 refine ⟨fun l hl => (hall l hl).2, ?_, ?_⟩
 ·obtain ⟨l, hl, rfl, rfl⟩ := (pair_iff F ha hc hac).1 t1
  exact ⟨l, hl, e1⟩
 ·obtain ⟨l, hl, rfl, rfl⟩ := (pair_iff F ha hc hac).1 t2
  exact ⟨l, hl, e2⟩
theorem apart_range {h : List S26} {s : List S61} {p : List S48} {b0 b1 : Int} {a c : Nat} (ha : a < h.length) (hc : c < h.length) (hE : askedE h s p b0 b1 true = 0) : apartE h s p b0 b1 (a : Int) (c : Int) = 0 ∧ IsRange h (jsOf h s p b0 b1) (b0, b1) a c (apartT h s p b0 b1 (a : Int) (c : Int)) := by
 have i1 : inK h.length (a : Int) = true := by unfold inK; rw [decide_eq_true (by omega), decide_eq_true (by omega)]; rfl
 have i2 : inK h.length (c : Int) = true := by unfold inK; rw [decide_eq_true (by omega), decide_eq_true (by omega)]; rfl
 have e0 : apartE h s p b0 b1 (a : Int) (c : Int) = 0 := by unfold apartE; rw [i1, i2]; exact hE
 obtain ⟨hck, _, hT⟩ := askedE_ok hE
 obtain ⟨F, _⟩ := fine_of hck
 refine ⟨e0, ?_⟩
 unfold apartT
 rw [if_pos e0, Int.toNat_natCast, Int.toNat_natCast]
 by_cases hac : a = c
 ·subst hac
  rw [if_pos rfl]
  obtain ⟨l, hl⟩ := (tun_some F).1 hT
  exact ⟨fun l _ => by dsimp only; omega, ⟨l, hl, by dsimp only; omega⟩, ⟨l, hl, by dsimp only; omega⟩⟩
 ·rw [if_neg (by omega)]
  exact apartF_range F ha hc hac hT
end Go.Proofs.YtgehkojccmkggaaDoor.K
end
section
namespace Go.Proofs.YtgehkojccmkggaaDoor.H
open Go.RowKit Go.Proofs.YtgehkojccmkggaaDoorW.PrintWords Go.Proofs.YtgehkojccmkggaaDoorW.PrintLast Go.Proofs.YtgehkojccmkggaaDoorW.PrintMore
attribute [local go_sem] max2_int min2_int max_two min_two max_three min_three max_four min_four   -- for this text's walks alone
set_option linter.unusedVariables false
set_option linter.unusedSimpArgs false
end Go.Proofs.YtgehkojccmkggaaDoor.H
end
section
namespace Go.Proofs.YtgehkojccmkggaaDoor.K
open Go.RowKit Go.Shelf Go.Proofs.YtgehkojccmkggaaDoorW.PrintWords Go.Proofs.YtgehkojccmkggaaDoorW.PrintLast Go.Proofs.YtgehkojccmkggaaDoorW.PrintMore Go.Proofs.YtgehkojccmkggaaDoor.H Tune
set_option linter.unusedVariables false
set_option linter.unusedSimpArgs false
attribute [local go_sem] Oper.semAt_some
section
variable {h : List S26} {s : List S61} {p : List S48} {b0 b1 : Int} {l : List Int}
def pairQ (b0 b1 : Int) (q : S48) : S80 := ⟨q.f0, q.f1, 1, ⟨b0, b1⟩⟩
def stepQ (x : S61) (i : Nat) : S80 := ⟨x.f0.getD i 0, x.f0.getD (i + 1) 0, 0, ⟨(x.f1.getD i z26).f0, (x.f1.getD i z26).f1⟩⟩
theorem steps_all (n : Nat) (x : S61) (P : S80 → Bool) (hx : ∀ k ∈ x.f0, inK n k = true) (hlen : x.f1.length + 1 = x.f0.length) : ∀ (d i : Nat) (st : List S80 × Bool), i + d = x.f0.length → 1 ≤ i → st.2 = true →
  ((List.range' i d).foldl (scaleStep n x) st).2 = true ∧ ((List.range' i d).foldl (scaleStep n x) st).1.all P = (st.1.all P && (List.range' (i - 1) d).all fun m => P (stepQ x m)) := by
 intro d
 induction d with
 | zero => intro i st hi h1 h2; exact ⟨h2, by simp⟩
 | succ d ih =>
  intro i st hi h1 h2
  have hlt : i < x.f0.length := by omega
  have hk : inK n (x.f0.getD i 0) = true := by rw [show x.f0.getD i 0 = x.f0[i] by simp [List.getD_eq_getElem?_getD, hlt]]; exact hx _ (List.getElem_mem hlt)
  have hst : scaleStep n x st i = (st.1 ++ [stepQ x (i - 1)], true) := by
   unfold scaleStep
   dsimp only
   rw [h2, hk, if_pos ⟨rfl, by omega, by omega⟩]
   unfold stepQ
   rw [show i - 1 + 1 = i by omega]
   rfl
  rw [List.range'_succ, List.foldl_cons, hst]
  obtain ⟨r1, r2⟩ := ih (i + 1) (st.1 ++ [stepQ x (i - 1)], true) (by omega) (by omega) rfl
  refine ⟨r1, ?_⟩
  rw [r2, List.range'_succ, List.all_append, List.all_cons, List.all_cons, List.all_nil, Bool.and_true, Bool.and_assoc, show i - 1 + 1 = i + 1 - 1 by omega]
theorem scale_all (n : Nat) (x : S61) (P : S80 → Bool) (hx : ∀ k ∈ x.f0, inK n k = true) (hlen : x.f1.length + 1 = x.f0.length) (st : List S80 × Bool) (h2 : st.2 = true) :
  (scaleJ n st x).2 = true ∧ (scaleJ n st x).1.all P = (st.1.all P && (List.range' 0 x.f1.length).all fun m => P (stepQ x m)) := by
 unfold scaleJ
 rw [List.range_eq_range', ← hlen, List.range'_succ, List.foldl_cons]
 have hk : inK n (x.f0.getD 0 0) = true := by rw [show x.f0.getD 0 0 = x.f0[0] by simp [List.getD_eq_getElem?_getD, show 0 < x.f0.length by omega]]; exact hx _ (List.getElem_mem (by omega))
 have hst : scaleStep n x st 0 = (st.1, true) := by
  unfold scaleStep
  dsimp only
  rw [h2, hk, if_neg (by omega)]
  rfl
 rw [hst]
 exact steps_all n x P hx hlen x.f1.length 1 (st.1, true) (by omega) (by omega) rfl
theorem scales_all (n : Nat) (P : S80 → Bool) : ∀ (s : List S61) (st : List S80 × Bool), (∀ x ∈ s, (∀ k ∈ x.f0, inK n k = true) ∧ x.f1.length + 1 = x.f0.length) → st.2 = true →
  (s.foldl (scaleJ n) st).2 = true ∧ (s.foldl (scaleJ n) st).1.all P = (st.1.all P && s.all fun x => (List.range' 0 x.f1.length).all fun m => P (stepQ x m)) := by
 intro s
 induction s with
 | nil => intro st _ h2; exact ⟨h2, by simp⟩
 | cons a s ih =>
  intro st hx h2
  obtain ⟨a1, a2⟩ := hx a (List.mem_cons_self ..)
  obtain ⟨r1, r2⟩ := scale_all n a P a1 a2 st h2
  obtain ⟨r3, r4⟩ := ih (scaleJ n st a) (fun x hx' => hx x (List.mem_cons_of_mem _ hx')) r1
  exact ⟨r3, by rw [List.foldl_cons, r4, r2, List.all_cons, Bool.and_assoc]⟩
theorem pairs_all (n : Nat) (P : S80 → Bool) : ∀ (p : List S48) (st : List S80 × Bool), (∀ q ∈ p, inK n q.f0 = true ∧ inK n q.f1 = true) → st.2 = true →
  (p.foldl (pairStep n b0 b1) st).1.all P = (st.1.all P && p.all fun q => P (pairQ b0 b1 q)) := by
 intro p
 induction p with
 | nil => intro st _ _; simp
 | cons a p ih =>
  intro st hx h2
  obtain ⟨a1, a2⟩ := hx a (List.mem_cons_self ..)
  have hst : pairStep n b0 b1 st a = (st.1 ++ [pairQ b0 b1 a], true) := by
   unfold pairStep
   dsimp only
   rw [h2, a1, a2]
   rfl
  rw [List.foldl_cons, hst, ih _ (fun x hx' => hx x (List.mem_cons_of_mem _ hx')) rfl, List.all_append, List.all_cons, List.all_cons, List.all_nil, Bool.and_true, Bool.and_assoc]
theorem joints_all (N : Neat h s p b0 b1) (P : S80 → Bool) : (jointsT h s p b0 b1).1.all P = ((s.all fun x => (List.range' 0 x.f1.length).all fun m => P (stepQ x m)) && (p.all fun q => P (pairQ b0 b1 q))) := by
 obtain ⟨r1, r2⟩ := scales_all h.length P s ([], true) (fun x hx => ⟨(N.scale x hx).2.2.2.1, (N.scale x hx).2.2.1⟩) rfl
 unfold jointsT
 rw [pairs_all h.length P p _ N.pair r1, r2, List.all_nil, Bool.true_and]
end
end Go.Proofs.YtgehkojccmkggaaDoor.K
end
section
namespace Go.Proofs.YtgehkojccmkggaaDoor.K
open Go.RowKit Go.Shelf Go.Proofs.YtgehkojccmkggaaDoorW.PrintWords Go.Proofs.YtgehkojccmkggaaDoorW.PrintLast Go.Proofs.YtgehkojccmkggaaDoorW.PrintMore Go.Proofs.YtgehkojccmkggaaDoor.H Tune
set_option linter.unusedVariables false
set_option linter.unusedSimpArgs false
attribute [local go_sem] Oper.semAt_some
def StepFit (left : Nat → Bool) (l : Nat → Int) (x : S61) (m : Nat) : Prop :=
 left (x.f0.getD m 0).toNat = false → left (x.f0.getD (m + 1) 0).toNat = false → (x.f1.getD m z26).f0 * l (x.f0.getD m 0).toNat ≤ 1000 * l (x.f0.getD (m + 1) 0).toNat ∧ 1000 * l (x.f0.getD (m + 1) 0).toNat ≤ (x.f1.getD m z26).f1 * l (x.f0.getD m 0).toNat
def PairFit (left : Nat → Bool) (B : Int × Int) (l : Nat → Int) (q : S48) : Prop :=
 left q.f0.toNat = false → left q.f1.toNat = false → B.1 ≤ l q.f1.toNat - l q.f0.toNat ∧ l q.f1.toNat - l q.f0.toNat ≤ B.2
def AllFit (s : List S61) (p : List S48) (left : Nat → Bool) (B : Int × Int) (l : Nat → Int) : Prop :=
 (∀ x ∈ s, ∀ m, m < x.f1.length → StepFit left l x m) ∧ ∀ q ∈ p, PairFit left B l q
section
variable {h : List S26} {s : List S61} {p : List S48} {b0 b1 : Int}
theorem fit_all (N : Neat h s p b0 b1) (left : Nat → Bool) (B : Int × Int) (l : Nat → Int) :
  (∀ j ∈ jsOf h s p b0 b1, left j.one = false → left j.two = false → fitB B j (l j.one) (l j.two) = true) ↔ AllFit s p left B l := by
 have h1 : (jsOf h s p b0 b1).all (fun j => (left j.one || left j.two) || fitB B j (l j.one) (l j.two)) = true ↔ (∀ j ∈ jsOf h s p b0 b1, left j.one = false → left j.two = false → fitB B j (l j.one) (l j.two) = true) := by
  rw [List.all_eq_true]
  refine forall_congr' fun j => forall_congr' fun _ => ?_
  cases left j.one <;> cases left j.two <;> simp
 rw [← h1]
 unfold jsOf
 rw [List.all_map]
 rw [show ((fun j : J => (left j.one || left j.two) || fitB B j (l j.one) (l j.two)) ∘ toJ) = (fun q : S80 => (left (toJ q).one || left (toJ q).two) || fitB B (toJ q) (l (toJ q).one) (l (toJ q).two)) from rfl, joints_all N, Bool.and_eq_true]
 unfold AllFit
 refine and_congr ?_ ?_
 ·rw [List.all_eq_true]
  refine forall_congr' fun x => forall_congr' fun _ => ?_
  rw [List.all_eq_true]
  constructor
  ·intro hm m hm' l1 l2
   have h2 := hm m (List.mem_range'_1.2 (by omega))
   have e1 : left (toJ (stepQ x m)).one = false := l1
   have e2 : left (toJ (stepQ x m)).two = false := l2
   rw [e1, e2] at h2
   have h3 : (decide ((x.f1.getD m z26).f0 * l (x.f0.getD m 0).toNat ≤ 1000 * l (x.f0.getD (m + 1) 0).toNat) && decide (1000 * l (x.f0.getD (m + 1) 0).toNat ≤ (x.f1.getD m z26).f1 * l (x.f0.getD m 0).toNat)) = true := h2
   simpa only [Bool.and_eq_true, decide_eq_true_eq] using h3
  ·intro hm m hm'
   have h2 := hm m (by have := List.mem_range'_1.1 hm'; omega)
   cases e1 : left (x.f0.getD m 0).toNat with
   | true => show ((left (x.f0.getD m 0).toNat || _) || _) = true; rw [e1]; rfl
   | false =>
    cases e2 : left (x.f0.getD (m + 1) 0).toNat with
    | true => show ((_ || left (x.f0.getD (m + 1) 0).toNat) || _) = true; rw [e2, Bool.or_true]; rfl
    | false =>
     obtain ⟨h3, h4⟩ := h2 e1 e2
     show ((left (x.f0.getD m 0).toNat || left (x.f0.getD (m + 1) 0).toNat) || (decide ((x.f1.getD m z26).f0 * l (x.f0.getD m 0).toNat ≤ 1000 * l (x.f0.getD (m + 1) 0).toNat) && decide (1000 * l (x.f0.getD (m + 1) 0).toNat ≤ (x.f1.getD m z26).f1 * l (x.f0.getD m 0).toNat))) = true
     rw [decide_eq_true h3, decide_eq_true h4]
     simp
 ·rw [List.all_eq_true]
  refine forall_congr' fun q => forall_congr' fun _ => ?_
  unfold PairFit
  show ((left q.f0.toNat || left q.f1.toNat) || (decide (B.1 ≤ l q.f1.toNat - l q.f0.toNat) && decide (l q.f1.toNat - l q.f0.toNat ≤ B.2))) = true ↔ _
  cases left q.f0.toNat <;> cases left q.f1.toNat <;> simp
theorem tunS_plain (hc : checkT h s p b0 b1 = 0) (left : Nat → Bool) (B : Int × Int) (gl : List (Int × Int)) :
  tunS h (jsOf h s p b0 b1) left B gl = true ↔ ∃ l : Nat → Int, (∀ x, x < h.length → left x = false → loH h x ≤ l x ∧ l x ≤ hiH h x ∧ okG gl x (l x) = true) ∧ AllFit s p left B l := by
 rw [tunS_iff (fine_of hc).1.joins]
 unfold Tunable Tun
 exact exists_congr fun l => and_congr Iff.rfl (fit_all (neat_of hc) left B l)
theorem tunS_beat {c0 c1 : Int} (hc : checkT h s p b0 b1 = 0) (hd : checkT h s p c0 c1 = 0) (left : Nat → Bool) (B : Int × Int) (gl : List (Int × Int)) : tunS h (jsOf h s p b0 b1) left B gl = tunS h (jsOf h s p c0 c1) left B gl := by
 rw [Bool.eq_iff_iff, tunS_plain hc, tunS_plain hd]
end
end Go.Proofs.YtgehkojccmkggaaDoor.K
end
section
namespace Go.Proofs.YtgehkojccmkggaaDoor.K
open Go.RowKit Go.Shelf Go.Proofs.YtgehkojccmkggaaDoorW.PrintWords Go.Proofs.YtgehkojccmkggaaDoorW.PrintLast Go.Proofs.YtgehkojccmkggaaDoorW.PrintMore Go.Proofs.YtgehkojccmkggaaDoor.H Tune
set_option linter.unusedVariables false
set_option linter.unusedSimpArgs false
attribute [local go_sem] Oper.semAt_some
theorem evenRow_spec (P : Int × Int → Bool) (wide : Int) : ∀ (d : Nat) (low : Int), (evenRow P wide d low = none → ∀ x, low ≤ x → x < low + d → P (x, x + wide) = false) ∧
  (∀ b, evenRow P wide d low = some b → b.2 = b.1 + wide ∧ low ≤ b.1 ∧ b.1 < low + d ∧ P b = true ∧ ∀ x, low ≤ x → x < b.1 → P (x, x + wide) = false) := by
 intro d
 induction d with
 | zero => intro low; exact ⟨fun _ x h1 h2 => by omega, fun b h => by cases h⟩
 | succ d ih =>
  intro low
  rw [evenRow]
  cases hp : P (low, low + wide) with
  | true =>
   rw [if_pos rfl]
   refine ⟨fun h => (by cases h), fun b h => ?_⟩
   injection h with h
   subst h
   exact ⟨rfl, Int.le_refl _, by show low < _; omega, hp, fun x h1 h2 => by have h2 : x < low := h2; omega⟩
  | false =>
   rw [if_neg (by decide)]
   obtain ⟨i1, i2⟩ := ih (low + 1)
   refine ⟨fun h x h1 h2 => ?_, fun b h => ?_⟩
   ·by_cases e : x = low
    ·rw [e]; exact hp
    ·exact i1 h x (by omega) (by omega)
   ·obtain ⟨a1, a2, a3, a4, a5⟩ := i2 b h
    refine ⟨a1, by omega, by omega, a4, fun x h1 h2 => ?_⟩
    by_cases e : x = low
    ·rw [e]; exact hp
    ·exact a5 x (by omega) h2
theorem evenGo_spec (P : Int × Int → Bool) (b0 b1 : Int) : ∀ (d i : Nat), (evenGo P b0 b1 d i = none → ∀ x w : Int, (i : Int) ≤ w → w < (i + d : Nat) → b0 ≤ x → x + w ≤ b1 → P (x, x + w) = false) ∧
  (∀ b, evenGo P b0 b1 d i = some b → b0 ≤ b.1 ∧ b.1 ≤ b.2 ∧ b.2 ≤ b1 ∧ P b = true ∧ ∀ x w : Int, (i : Int) ≤ w → (w < b.2 - b.1 ∨ (w = b.2 - b.1 ∧ x < b.1)) → b0 ≤ x → x + w ≤ b1 → P (x, x + w) = false) := by
 intro d
 induction d with
 | zero => intro i; exact ⟨fun _ x w h1 h2 => by omega, fun b h => by cases h⟩
 | succ d ih =>
  intro i
  rw [evenGo]
  obtain ⟨r1, r2⟩ := evenRow_spec P (i : Int) (b1 + 1 - b0 - (i : Int)).toNat b0
  cases hr : evenRow P (i : Int) (b1 + 1 - b0 - (i : Int)).toNat b0 with
  | some b =>
   refine ⟨fun h => (by cases h), fun b' h => ?_⟩
   injection h with h
   subst h
   obtain ⟨a1, a2, a3, a4, a5⟩ := r2 b hr
   refine ⟨a2, by omega, by omega, a4, fun x w h1 h2 h3 h4 => ?_⟩
   obtain rfl : w = (i : Int) := by omega
   exact a5 x h3 (by omega)
  | none =>
   have r1 := r1 hr
   obtain ⟨i1, i2⟩ := ih (i + 1)
   refine ⟨fun h x w h1 h2 h3 h4 => ?_, fun b h => ?_⟩
   ·by_cases e : w = (i : Int)
    ·rw [e]; exact r1 x h3 (by omega)
    ·exact i1 h x w (by omega) (by omega) h3 h4
   ·obtain ⟨a1, a2, a3, a4, a5⟩ := i2 b h
    refine ⟨a1, a2, a3, a4, fun x w h1 h2 h3 h4 => ?_⟩
    by_cases e : w = (i : Int)
    ·rw [e]; exact r1 x h3 (by omega)
    ·exact a5 x w (by omega) h2 h3 h4
def IsBand (P : Int × Int → Bool) (b0 b1 : Int) (b : Int × Int) : Prop :=
 b0 ≤ b.1 ∧ b.1 ≤ b.2 ∧ b.2 ≤ b1 ∧ P b = true ∧ ∀ c : Int × Int, b0 ≤ c.1 → c.1 ≤ c.2 → c.2 ≤ b1 → (c.2 - c.1 < b.2 - b.1 ∨ (c.2 - c.1 = b.2 - b.1 ∧ c.1 < b.1)) → P c = false
theorem IsBand.same {P : Int × Int → Bool} {b0 b1 : Int} {b c : Int × Int} (hb : IsBand P b0 b1 b) (hc : IsBand P b0 b1 c) : b = c := by
 obtain ⟨a1, a2, a3, a4, a5⟩ := hb
 obtain ⟨d1, d2, d3, d4, d5⟩ := hc
 have h1 : ¬ (c.2 - c.1 < b.2 - b.1 ∨ (c.2 - c.1 = b.2 - b.1 ∧ c.1 < b.1)) := fun h => by rw [a5 c d1 d2 d3 h] at d4; cases d4
 have h2 : ¬ (b.2 - b.1 < c.2 - c.1 ∨ (b.2 - b.1 = c.2 - c.1 ∧ b.1 < c.1)) := fun h => by rw [d5 b a1 a2 a3 h] at a4; cases a4
 obtain ⟨b0', b1'⟩ := b
 obtain ⟨c0', c1'⟩ := c
 simp only [] at h1 h2
 congr 1 <;> omega
theorem evenF_band {h : List S26} {js : List J} {b0 b1 : Int} (hb : b0 ≤ b1) (ht : tunS h js noLeft (b0, b1) [] = true) : IsBand (fun b => tunS h js noLeft b []) b0 b1 (evenF h js b0 b1) := by
 unfold evenF
 obtain ⟨g1, g2⟩ := evenGo_spec (fun b => tunS h js noLeft b []) b0 b1 (b1 - b0 + 1).toNat 0
 cases hg : evenGo (fun b => tunS h js noLeft b []) b0 b1 (b1 - b0 + 1).toNat 0 with
 | none =>
  have := g1 hg b0 (b1 - b0) (by omega) (by omega) (Int.le_refl _) (by omega)
  rw [show b0 + (b1 - b0) = b1 by omega] at this
  rw [ht] at this
  cases this
 | some b =>
  obtain ⟨a1, a2, a3, a4, a5⟩ := g2 b hg
  show IsBand _ b0 b1 b
  refine ⟨a1, a2, a3, a4, fun c c1 c2 c3 hc => ?_⟩
  have := a5 c.1 (c.2 - c.1) (by omega) (by omega) c1 (by omega)
  rw [show c.1 + (c.2 - c.1) = c.2 by omega] at this
  exact this
end Go.Proofs.YtgehkojccmkggaaDoor.K
end
section
namespace Go.Proofs.YtgehkojccmkggaaDoor.K
open Go.RowKit Go.Shelf Go.Proofs.YtgehkojccmkggaaDoorW.PrintWords Go.Proofs.YtgehkojccmkggaaDoorW.PrintLast Go.Proofs.YtgehkojccmkggaaDoorW.PrintMore Go.Proofs.YtgehkojccmkggaaDoor.H Tune
set_option linter.unusedVariables false
set_option linter.unusedSimpArgs false
attribute [local go_sem] Oper.semAt_some
theorem steps_list (n : Nat) (x : S61) (hx : ∀ k ∈ x.f0, inK n k = true) (hlen : x.f1.length + 1 = x.f0.length) : ∀ (d i : Nat) (st : List S80 × Bool), i + d = x.f0.length → 1 ≤ i → st.2 = true →
  (List.range' i d).foldl (scaleStep n x) st = (st.1 ++ (List.range' (i - 1) d).map (stepQ x), true) := by
 intro d
 induction d with
 | zero => intro i st hi h1 h2; rw [← h2]; simp
 | succ d ih =>
  intro i st hi h1 h2
  have hlt : i < x.f0.length := by omega
  have hk : inK n (x.f0.getD i 0) = true := by rw [show x.f0.getD i 0 = x.f0[i] by simp [List.getD_eq_getElem?_getD, hlt]]; exact hx _ (List.getElem_mem hlt)
  have hst : scaleStep n x st i = (st.1 ++ [stepQ x (i - 1)], true) := by
   unfold scaleStep
   dsimp only
   rw [h2, hk, if_pos ⟨rfl, by omega, by omega⟩]
   unfold stepQ
   rw [show i - 1 + 1 = i by omega]
   rfl
  rw [List.range'_succ, List.foldl_cons, hst, ih (i + 1) (st.1 ++ [stepQ x (i - 1)], true) (by omega) (by omega) rfl, List.range'_succ, List.map_cons, List.append_assoc, show i - 1 + 1 = i + 1 - 1 by omega]
  rfl
def stepsOf (x : S61) : List S80 := (List.range' 0 x.f1.length).map (stepQ x)
theorem scale_list (n : Nat) (x : S61) (hx : ∀ k ∈ x.f0, inK n k = true) (hlen : x.f1.length + 1 = x.f0.length) (st : List S80 × Bool) (h2 : st.2 = true) : scaleJ n st x = (st.1 ++ stepsOf x, true) := by
 unfold scaleJ
 rw [List.range_eq_range', ← hlen, List.range'_succ, List.foldl_cons]
 have hk : inK n (x.f0.getD 0 0) = true := by rw [show x.f0.getD 0 0 = x.f0[0] by simp [List.getD_eq_getElem?_getD, show 0 < x.f0.length by omega]]; exact hx _ (List.getElem_mem (by omega))
 have hst : scaleStep n x st 0 = (st.1, true) := by
  unfold scaleStep
  dsimp only
  rw [h2, hk, if_neg (by omega)]
  rfl
 rw [hst]
 exact steps_list n x hx hlen x.f1.length 1 (st.1, true) (by omega) (by omega) rfl
theorem scales_list (n : Nat) : ∀ (s : List S61) (st : List S80 × Bool), (∀ x ∈ s, (∀ k ∈ x.f0, inK n k = true) ∧ x.f1.length + 1 = x.f0.length) → st.2 = true → s.foldl (scaleJ n) st = (st.1 ++ s.flatMap stepsOf, true) := by
 intro s
 induction s with
 | nil => intro st _ h2; rw [← h2]; simp
 | cons a s ih =>
  intro st hx h2
  obtain ⟨a1, a2⟩ := hx a (List.mem_cons_self ..)
  rw [List.foldl_cons, scale_list n a a1 a2 st h2, ih _ (fun x hx' => hx x (List.mem_cons_of_mem _ hx')) rfl, List.flatMap_cons, List.append_assoc]
theorem pairs_list (n : Nat) (b0 b1 : Int) : ∀ (p : List S48) (st : List S80 × Bool), (∀ q ∈ p, inK n q.f0 = true ∧ inK n q.f1 = true) → st.2 = true → p.foldl (pairStep n b0 b1) st = (st.1 ++ p.map (pairQ b0 b1), true) := by
 intro p
 induction p with
 | nil => intro st _ h2; rw [← h2]; simp
 | cons a p ih =>
  intro st hx h2
  obtain ⟨a1, a2⟩ := hx a (List.mem_cons_self ..)
  have hst : pairStep n b0 b1 st a = (st.1 ++ [pairQ b0 b1 a], true) := by
   unfold pairStep
   dsimp only
   rw [h2, a1, a2]
   rfl
  rw [List.foldl_cons, hst, ih _ (fun x hx' => hx x (List.mem_cons_of_mem _ hx')) rfl, List.map_cons, List.append_assoc]
  rfl
def OkS (n : Nat) (s : List S61) (p : List S48) : Prop := (∀ x ∈ s, (∀ k ∈ x.f0, inK n k = true) ∧ x.f1.length + 1 = x.f0.length) ∧ ∀ q ∈ p, inK n q.f0 = true ∧ inK n q.f1 = true
theorem joints_list {h : List S26} {s : List S61} {p : List S48} {b0 b1 : Int} (H : OkS h.length s p) : jointsT h s p b0 b1 = (s.flatMap stepsOf ++ p.map (pairQ b0 b1), true) := by
 unfold jointsT
 rw [scales_list _ s _ H.1 rfl, pairs_list _ b0 b1 p _ H.2 rfl]
 rfl
theorem okS_of {h : List S26} {s : List S61} {p : List S48} {b0 b1 : Int} (N : Neat h s p b0 b1) : OkS h.length s p := ⟨fun x hx => ⟨(N.scale x hx).2.2.2.1, (N.scale x hx).2.2.1⟩, N.pair⟩
def kk (q : S80) : Nat × Nat := (q.f0.toNat, q.f1.toNat)
def ringK : List (Nat × Nat) → List Int → Bool
 | [], _ => true
 | j :: t, g => if g.getD j.1 0 = g.getD j.2 0 then false else ringK t (unite g (g.getD j.1 0) (g.getD j.2 0))
theorem ringF_K : ∀ (js : List S80) (g : List Int), ringF js g = ringK (js.map kk) g := by
 intro js
 induction js with
 | nil => intro g; rfl
 | cons j js ih =>
  intro g
  rw [List.map_cons, ringF, ringK, ih]
  rfl
def keysOf (s : List S61) (p : List S48) : List (Nat × Nat) := (s.flatMap stepsOf).map kk ++ p.map (fun q => (q.f0.toNat, q.f1.toNat))
theorem ring_keys {h : List S26} {s : List S61} {p : List S48} {b0 b1 : Int} (H : OkS h.length s p) (g : List Int) : ringF (jointsT h s p b0 b1).1 g = ringK (keysOf s p) g := by
 rw [joints_list H, ringF_K, List.map_append, List.map_map]
 rfl
theorem check_iff {h : List S26} {s : List S61} {p : List S48} {b0 b1 : Int} : checkT h s p b0 b1 = 0 ↔ (ok0 h s p b0 b1 = true ∧ h.all okHeard = true ∧ s.all okScale = true ∧ OkS h.length s p) ∧ ringK (keysOf s p) [0, 1, 2, 3, 4, 5, 6, 7] = true := by
 constructor
 ·intro hc
  have N := neat_of hc
  obtain ⟨h1, h2⟩ := checkT_eq hc
  rw [ring_keys (okS_of N)] at h2
  unfold okAll at h1
  simp only [Bool.and_eq_true] at h1
  exact ⟨⟨h1.1.1.1, h1.1.1.2, h1.1.2, okS_of N⟩, h2⟩
 ·rintro ⟨⟨h1, h2, h3, h4⟩, h5⟩
  unfold checkT
  rw [if_pos]
  refine ⟨?_, by rw [ring_keys h4]; exact h5⟩
  unfold okAll
  rw [h1, h2, h3, joints_list h4]
  rfl
theorem check_beat {h : List S26} {s : List S61} {p : List S48} {b0 b1 c0 c1 : Int} (hc : checkT h s p b0 b1 = 0) (hs : okSpan ⟨c0, c1⟩ 0 60 = true) : checkT h s p c0 c1 = 0 := by
 obtain ⟨⟨a1, a2, a3, a4⟩, a5⟩ := check_iff.1 hc
 refine check_iff.2 ⟨⟨?_, a2, a3, a4⟩, a5⟩
 unfold ok0 at a1 ⊢
 simp only [Bool.and_eq_true] at a1 ⊢
 exact ⟨a1.1, a1.2.1, a1.2.2.1, a1.2.2.2.1, hs⟩
end Go.Proofs.YtgehkojccmkggaaDoor.K
end
section
namespace Go.Proofs.YtgehkojccmkggaaDoor.K
open Go.RowKit Go.Shelf Go.Proofs.YtgehkojccmkggaaDoorW.PrintWords Go.Proofs.YtgehkojccmkggaaDoorW.PrintLast Go.Proofs.YtgehkojccmkggaaDoorW.PrintMore Go.Proofs.YtgehkojccmkggaaDoor.H Tune
set_option linter.unusedVariables false
set_option linter.unusedSimpArgs false
attribute [local go_sem] Oper.semAt_some
theorem turn_at (a : Int) (n : Nat) (h1 : 1 ≤ n) (h8 : n ≤ 9000000) : ∃ t : Nat, t < n ∧ saronref00_Turn.f a (n : Int) = some (t : Int) := by
 have hp : (0 : Int) < (n : Int) := by omega
 have b1 := Int.tmod_lt_of_pos a hp
 have b2 := Int.lt_tmod_of_pos a hp
 unfold saronref00_Turn.f
 rw [if_neg (by omega), if_neg (by omega)]
 by_cases h : Int.tmod a n < 0
 ·rw [if_pos h, w64 (by omega) (by omega)]
  exact ⟨(Int.tmod a n + n).toNat, by omega, by congr 1; omega⟩
 ·rw [if_neg h]
  exact ⟨(Int.tmod a n).toNat, by omega, by congr 1; omega⟩
theorem draw_in (lo hi n : Int) (h1 : 0 ≤ lo) (h2 : lo ≤ hi) (h3 : hi ≤ 4000) : ∃ v, saronref00_Draw.f lo hi n = some v ∧ lo ≤ v ∧ v ≤ hi := by
 unfold saronref00_Draw.f
 by_cases h : hi ≤ lo
 ·rw [if_pos h]; exact ⟨_, rfl, Int.le_refl _, h2⟩
 ·rw [if_neg h, w64 (x := hi - lo) (by omega) (by omega), w64 (by omega) (by omega), if_neg (by omega)]
  obtain ⟨t, ht, e⟩ := turn_at n (hi - lo + 1).toNat (by omega) (by omega)
  rw [show ((hi - lo + 1).toNat : Int) = hi - lo + 1 by omega] at e
  rw [e]
  simp only [Option.bind_some]
  rw [w64 (by omega) (by omega)]
  exact ⟨_, rfl, by omega, by omega⟩
end Go.Proofs.YtgehkojccmkggaaDoor.K
end
section
namespace Go.Proofs.YtgehkojccmkggaaDoor.H
open Go.RowKit Go.Proofs.YtgehkojccmkggaaDoorW.PrintWords Go.Proofs.YtgehkojccmkggaaDoorW.PrintLast Go.Proofs.YtgehkojccmkggaaDoorW.PrintMore
attribute [local go_sem] max2_int min2_int max_two min_two max_three min_three max_four min_four   -- for this text's walks alone
set_option linter.unusedVariables false
set_option linter.unusedSimpArgs false
theorem eqA26 (d : Nat) (w : World) (x0 y0 : Int) (x1 y1 : Int) :
  (Op.equalIn (d + 2) 26 (.agg #[.int .i64 x0, .int .i64 x1]) (.agg #[.int .i64 y0, .int .i64 y1])).run Tryd.prog w = .ok (x0 == y0 && (x1 == y1)) w := by
 refine eqA_of Tryd.underlying26 zk ?_
 refine eqf_cons (by rfl) (by go_simp; rfl) (by go_simp; rfl) (by go_simp) ?_
 exact eqf_last (by rfl) (by go_simp; rfl) (by go_simp; rfl) (by go_simp)
end Go.Proofs.YtgehkojccmkggaaDoor.H
end
section
namespace Go.Proofs.YtgehkojccmkggaaDoor.K
open Go.RowKit Go.Shelf Go.Proofs.YtgehkojccmkggaaDoorW.PrintWords Go.Proofs.YtgehkojccmkggaaDoorW.PrintLast Go.Proofs.YtgehkojccmkggaaDoorW.PrintMore Go.Proofs.YtgehkojccmkggaaDoor.H Tune
set_option linter.unusedVariables false
set_option linter.unusedSimpArgs false
attribute [local go_sem] Oper.semAt_some
structure At (A0 : Option Addr) (c0 : Nat) (h : List S26) (A1 : Option Addr) (c1 : Nat) (s : List S61) (A2 : Option Addr) (c2 : Nat) (p : List S48) (w : World) : Prop where
 sm : small h s p = true
 gl : Glob w
 d0 : Kd.C k26 w A0 h.length h
 n0 : h.length ≤ c0
 d1 : Kd.C k61 w A1 s.length s
 n1 : s.length ≤ c1
 d2 : Kd.C k48 w A2 p.length p
 n2 : p.length ≤ c2
abbrev sc (A0 : Option Addr) (c0 : Nat) (h : List S26) (A1 : Option Addr) (c1 : Nat) (s : List S61) (A2 : Option Addr) (c2 : Nat) (p : List S48) (b0 b1 : Int) : Array Value := #[.slice A0 h.length c0, .slice A1 s.length c1, .slice A2 p.length c2, .int .i64 b0, .int .i64 b1]
section
variable {A0 : Option Addr} {c0 : Nat} {h : List S26} {A1 : Option Addr} {c1 : Nat} {s : List S61} {A2 : Option Addr} {c2 : Nat} {p : List S48} {w w' : World} {b0 b1 : Int}
theorem At.below (H : At A0 c0 h A1 c1 s A2 c2 p w) (hb : Below w.heap.size w w') : At A0 c0 h A1 c1 s A2 c2 p w' := ⟨H.sm, H.gl.below hb, Kd.C_below H.d0 hb, H.n0, Kd.C_below H.d1 hb, H.n1, Kd.C_below H.d2 hb, H.n2⟩
variable (H : Aside0 (At A0 c0 h A1 c1 s A2 c2 p w))
include H
theorem cPlayed : ∀ W, Below w.heap.size w W → Calls Tryd.prog 22 #[] W fun e w' => e = .returned (.bool true) ∧ Below W.heap.size W w' := fun W hW => saronlaw01_played.calls true W (H.out.gl.below hW) rfl
theorem cSound {r : Bool} (hr : decide (checkT h s p b0 b1 = 0) = r) : ∀ W, Below w.heap.size w W → Calls Tryd.prog 36 #[.agg (sc A0 c0 h A1 c1 s A2 c2 p b0 b1)] W fun e w' => e = .returned (.bool r) ∧ Below W.heap.size W w' := fun W hW => by
 have X := H.out.below hW
 obtain ⟨K, hK⟩ := sound_law (b0 := b0) (b1 := b1) X.sm
 exact saronlaw01_sound.calls K A0 c0 h A1 c1 s A2 c2 p b0 b1 r W X.d0 X.n0 X.d1 X.n1 X.d2 X.n2 X.gl (by rw [hK K (Nat.le_refl _), hr])
theorem cEven {r1 r2 r3 : Int} (hr : Aside0 (tune_Even.f h s p b0 b1 = some (r1, r2, r3))) : ∀ W, Below w.heap.size w W → Calls Tryd.prog 29 #[.agg (sc A0 c0 h A1 c1 s A2 c2 p b0 b1)] W fun e w' => e = .returned (.tuple #[.agg #[.int .i64 r1, .int .i64 r2], .int .i64 r3]) ∧ Below W.heap.size W w' := fun W hW => by
 have X := H.out.below hW
 exact tune_Even.calls A0 c0 h A1 c1 s A2 c2 p b0 b1 r1 r2 r3 W X.d0 X.n0 X.d1 X.n1 X.d2 X.n2 X.gl hr.out
theorem cTuning {r : List Int} {r2 : Int} (hr : Aside0 (tune_Tuning.f h s p b0 b1 = some (r, r2))) : ∀ W, Below w.heap.size w W → Calls Tryd.prog 20 #[.agg (sc A0 c0 h A1 c1 s A2 c2 p b0 b1)] W fun e w' => ∃ v : Value, e = .returned (.tuple #[v, .int .i64 r2]) ∧ Kd.V (Kd.int .i64) 3 w' W.heap.size (fun k_ => W.heap.size ≤ k_) v r ∧ Below W.heap.size W w' := fun W hW => by
 have X := H.out.below hW
 exact tune_Tuning.calls A0 c0 h A1 c1 s A2 c2 p b0 b1 r r2 W X.d0 X.n0 X.d1 X.n1 X.d2 X.n2 X.gl hr.out
theorem cApart {a q r1 r2 r3 : Int} (hr : Aside0 (tune_Apart.f h s p b0 b1 a q = some (r1, r2, r3))) : ∀ W, Below w.heap.size w W → Calls Tryd.prog 27 #[.agg (sc A0 c0 h A1 c1 s A2 c2 p b0 b1), .int .i64 a, .int .i64 q] W fun e w' => e = .returned (.tuple #[.agg #[.int .i64 r1, .int .i64 r2], .int .i64 r3]) ∧ Below W.heap.size W w' := fun W hW => by
 have X := H.out.below hW
 exact tune_Apart.calls A0 c0 h A1 c1 s A2 c2 p b0 b1 a q r1 r2 r3 W X.d0 X.n0 X.d1 X.n1 X.d2 X.n2 X.gl hr.out
end
section
variable {w : World}
theorem cBand (a b : Int) : ∀ W, Below w.heap.size w W → Calls Tryd.prog 42 #[.int .i64 a, .int .i64 b] W fun e w' => e = .returned (.agg #[.int .i64 a, .int .i64 b]) ∧ Below W.heap.size W w' := fun W _ => saronref00_Band.calls a b a b W rfl
theorem cGood (a b lo hi : Int) {r : Bool} (hr : okSpan ⟨a, b⟩ lo hi = r) : ∀ W, Below w.heap.size w W → Calls Tryd.prog 46 #[.agg #[.int .i64 a, .int .i64 b], .int .i64 lo, .int .i64 hi] W fun e w' => e = .returned (.bool r) ∧ Below W.heap.size W w' := fun W _ => saronref00_Good.calls a b lo hi r W (by rw [good_f, hr])
theorem cUnder (a b c d : Int) {r : Bool} (hr : saronref00_Under.f a b c d = some r) : ∀ W, Below w.heap.size w W → Calls Tryd.prog 41 #[.agg #[.int .i64 a, .int .i64 b], .agg #[.int .i64 c, .int .i64 d]] W fun e w' => e = .returned (.bool r) ∧ Below W.heap.size W w' := fun W _ => saronref00_Under.calls a b c d r W hr
theorem cDraw (a b n : Int) {r : Int} (hr : Aside0 (saronref00_Draw.f a b n = some r)) : ∀ W, Below w.heap.size w W → Calls Tryd.prog 45 #[.agg #[.int .i64 a, .int .i64 b], .int .i64 n] W fun e w' => e = .returned (.int .i64 r) ∧ Below W.heap.size W w' := fun W _ => saronref00_Draw.calls a b n r W hr.out
theorem cTurn (a n : Int) {r : Int} (hr : Aside0 (saronref00_Turn.f a n = some r)) : ∀ W, Below w.heap.size w W → Calls Tryd.prog 39 #[.int .i64 a, .int .i64 n] W fun e w' => e = .returned (.int .i64 r) ∧ Below W.heap.size W w' := fun W _ => (saronref00_Turn.calls a n r W hr.out).mono fun _ _ hh => ⟨hh.1, Drawn0.belowZ hh.2⟩
end
end Go.Proofs.YtgehkojccmkggaaDoor.K
end
