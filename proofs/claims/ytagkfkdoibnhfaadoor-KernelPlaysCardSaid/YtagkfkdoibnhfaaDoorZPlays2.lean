/- KernelPlays: for every scale, any numbers that choose the kernel and any number that chooses the register the law returns true, and each argument reads afterwards as it read before. Condition: when the call begins the package's table of rules reads as the program's text lays it; the card ties that to the text. -/
import Derived.Below
import Derived.Carry
import Derived.LaidMore
import Derived.OpenShut
import Derived.ProofKit
import Derived.SevenTiedAt
import Derived.SizedLaws
import Derived.Stop.Joined
import Derived.WalkKit
import Derived.Test.YtagkfkdoibnhfaaDoorCards
import Derived.Test.YtagkfkdoibnhfaaDoorTie
import Derived.Test.YtagkfkdoibnhfaaDoorZB2
import Derived.Test.YtagkfkdoibnhfaaDoorZB4
import Derived.Test.YtagkfkdoibnhfaaDoorZPlays1
set_option linter.all false
section
namespace Go.Proofs.YtagkfkdoibnhfaaDoor.H
open Go.RowKit Go.Proofs.YtagkfkdoibnhfaaDoorW.PrintWords Go.Proofs.YtagkfkdoibnhfaaDoorW.PrintLast Go.Proofs.YtagkfkdoibnhfaaDoorW.PrintMore
attribute [local go_sem] max2_int min2_int max_two min_two max_three min_three max_four min_four   -- for this text's walks alone
set_option linter.unusedVariables false
set_option linter.unusedSimpArgs false
open Go.Proofs.YtagkfkdoibnhfaaDoor.K
def saronlaw06_KernelPlays.T3 : Bool × List (List Nat × List Nat) := (true, [([], []), ([], []), ([0, 1], [0, 1]), ([], []), ([], []), ([4], [4]), ([5], [5]), ([3, 6, 2], [3, 6]), ([2, 7, 0, 1, 2], [2]), ([7, 8, 0, 1, 2, 3, 4, 5, 6, 7, 8], [7])])
def saronlaw06_KernelPlays.B3 : List Nat := [0, 0, 3, 0, 0, 16, 48, 127, 255, 511]
theorem saronlaw06_KernelPlays.tab3 : rtab .any (opsOf Tryd.f9 3) = saronlaw06_KernelPlays.T3 := by kernel_rfl
theorem saronlaw06_KernelPlays.bits3 : waitsOk saronlaw06_KernelPlays.T3.2 saronlaw06_KernelPlays.B3 = true := by kernel_rfl
def saronlaw06_KernelPlays.T32 : Bool × List (List Nat × List Nat) := (true, [([], []), ([], []), ([0, 1], [0, 1]), ([2], [2]), ([], []), ([4], [4]), ([], []), ([6], [6]), ([3, 5, 7], [3, 5, 7]), ([8], [8]), ([9, 8], [9]), ([10], [10]), ([10], [10]), ([11, 12, 10], [10, 11, 12]), ([13, 10], [10, 13]), ([10], [10]), ([14, 15, 10], [10, 14, 15]), ([10], [10]), ([17, 10], [10, 17]), ([16, 18, 10, 10], [10, 16, 18]), ([19, 10], [10, 19]), ([10, 20], [10, 20]), ([21, 19], [21]), ([22], [22]), ([22], [22]), ([24, 22], [22, 24]), ([22], [22]), ([26, 22], [22, 26]), ([23, 25, 27, 22, 22], [22, 23, 25, 27]), ([28, 28, 22], [22, 28]), ([29], [29]), ([29], [29]), ([30, 31, 29], [29, 30, 31]), ([32, 29], [29, 32]), ([29], [29]), ([33, 34, 29], [29, 33, 34]), ([29, 35, 22], [22, 29, 35]), ([22, 36], [22, 36]), ([37, 29], [37]), ([38], [38]), ([38], [38]), ([40, 38], [38, 40]), ([38], [38]), ([42, 38], [38, 42]), ([39, 41, 43, 38, 38], [38, 39, 41, 43]), ([44, 38], [38, 44]), ([45, 44, 38], [38, 45]), ([46], [46]), ([46], [46]), ([47, 48, 46], [46, 47, 48]), ([49, 46], [46, 49]), ([46], [46]), ([51, 46], [46, 51]), ([46], [46]), ([53, 46], [46, 53]), ([52, 54, 46], [46, 52, 54]), ([50, 55, 46], [46, 50, 55]), ([46, 56, 38], [38, 46, 56]), ([38, 57], [38, 57])])
def saronlaw06_KernelPlays.B32 : List Nat := [0, 0, 3, 7, 0, 16, 0, 64, 255, 511, 1023, 2047, 2047, 8191, 16383, 2047, 65535, 2047, 133119, 524287, 1048575, 2097151, 4194303, 8388607, 8388607, 25165823, 8388607, 75497471, 268435455, 536870911, 1073741823, 1073741823, 4294967295, 8589934591, 1073741823, 34359738367, 68719476735, 137438953471, 274877906943, 549755813887, 549755813887, 1649267441663, 549755813887, 4947802324991, 17592186044415, 35184372088831, 70368744177663, 140737488355327, 140737488355327, 562949953421311, 1125899906842623, 140737488355327, 2392537302040575, 140737488355327, 9147936743096319, 33917734693634047, 72057594037927935, 144115188075855871, 288230376151711743]
theorem saronlaw06_KernelPlays.tab32 : rtab .any (opsOf Tryd.f9 32) = saronlaw06_KernelPlays.T32 := by kernel_rfl
theorem saronlaw06_KernelPlays.bits32 : waitsOk saronlaw06_KernelPlays.T32.2 saronlaw06_KernelPlays.B32 = true := by kernel_rfl
set_option maxHeartbeats 8000000 in
set_option maxRecDepth 100000 in
theorem saronlaw06_KernelPlays.calls (k : Nat) (a0_0 : Int) (a0_1 : Int) (a0_2 : Int) (A0_3 : Option Addr) (c0_3 : Nat) (l0_3 : List (S66)) (A1 : Option Addr) (c1 : Nat) (l1 : List Int) (a2 : Int) (r : Bool) (w : World) (hr0_3 : Kd.C k66 w A0_3 l0_3.length l0_3) (hc0_3 : l0_3.length ≤ c0_3) (hr1 : Kd.C (Kd.int .i64) w A1 l1.length l1) (hc1 : l1.length ≤ c1) (hG : Glob w) (h : saronlaw06_KernelPlays.f k a0_0 a0_1 a0_2 l0_3 l1 a2 = some r) :
  Calls Tryd.prog 9 #[.agg #[.int .i64 a0_0, .int .i64 a0_1, .int .i64 a0_2, .slice A0_3 l0_3.length c0_3], .slice A1 l1.length c1, .int .i64 a2] w fun e w' => e = .returned (.bool r) ∧ Below w.heap.size w w' := by
 have hu24 := Tryd.underlying24
 have hu66 := Tryd.underlying66
 have HG := zh hG
 clear hG
 have HR0_3 := zh hr0_3
 have HC0_3 := zh hc0_3
 clear hr0_3 hc0_3
 have HR1 := zh hr1
 have HC1 := zh hc1
 clear hr1 hc1
 have HB := zh (Below.refl w.heap.size w)
 have H : ((saronlaw06_sound.f k a0_0 a0_1 a0_2 l0_3).bind fun t579 => (if t579 = true then ((saronlaw06_truly.f k a0_0 a0_1 a0_2 l0_3 l1).bind fun t581 => ((saronref00_Turn.f a2 (l0_3.length : Int)).bind fun t584 => (if 0 ≤ t584 then (if t584 < (l0_3.length : Int) then ((kernel_Part.f a0_0 a0_1 a0_2 l0_3 t581 t584).bind fun bt587 => ((some (([1, 2, 4, 4, 4] : List Int) : List Int)).bind fun y591 => (if 0 ≤ ((rd_T66 l0_3 t584).f0) then (if ((rd_T66 l0_3 t584).f0) < (y591.length : Int) then (if bt587.2 = 0 then (saronlaw06_KernelPlays.j0 k t581 bt587.1 (rd y591 ((rd_T66 l0_3 t584).f0)) ((bt587.1.length : Int) != (wrap64 (Int.tdiv (wrap64 ((rd y591 ((rd_T66 l0_3 t584).f0)) * (t581.length : Int))) 2))) a0_0 a0_1 a0_2 l0_3 ((rd_T66 l0_3 t584).f0) ((rd_T66 l0_3 t584).f1) ((rd_T66 l0_3 t584).f2) ((rd_T66 l0_3 t584).f3)) else (saronlaw06_KernelPlays.j0 k t581 bt587.1 (rd y591 ((rd_T66 l0_3 t584).f0)) true a0_0 a0_1 a0_2 l0_3 ((rd_T66 l0_3 t584).f0) ((rd_T66 l0_3 t584).f1) ((rd_T66 l0_3 t584).f2) ((rd_T66 l0_3 t584).f3))) else (none)) else (none)))) else (none)) else (none)))) else ((saronlaw06_works.f).bind fun t580 => (some t580)))) = some r := h
 clear h
 replace H := Option.bind_eq_some_iff.mp H
 obtain ⟨t579, A40, H⟩ := H
 replace H : (if t579 = true then ((saronlaw06_truly.f k a0_0 a0_1 a0_2 l0_3 l1).bind fun t581 => ((saronref00_Turn.f a2 (l0_3.length : Int)).bind fun t584 => (if 0 ≤ t584 then (if t584 < (l0_3.length : Int) then ((kernel_Part.f a0_0 a0_1 a0_2 l0_3 t581 t584).bind fun bt587 => ((some (([1, 2, 4, 4, 4] : List Int) : List Int)).bind fun y591 => (if 0 ≤ ((rd_T66 l0_3 t584).f0) then (if ((rd_T66 l0_3 t584).f0) < (y591.length : Int) then (if bt587.2 = 0 then (saronlaw06_KernelPlays.j0 k t581 bt587.1 (rd y591 ((rd_T66 l0_3 t584).f0)) ((bt587.1.length : Int) != (wrap64 (Int.tdiv (wrap64 ((rd y591 ((rd_T66 l0_3 t584).f0)) * (t581.length : Int))) 2))) a0_0 a0_1 a0_2 l0_3 ((rd_T66 l0_3 t584).f0) ((rd_T66 l0_3 t584).f1) ((rd_T66 l0_3 t584).f2) ((rd_T66 l0_3 t584).f3)) else (saronlaw06_KernelPlays.j0 k t581 bt587.1 (rd y591 ((rd_T66 l0_3 t584).f0)) true a0_0 a0_1 a0_2 l0_3 ((rd_T66 l0_3 t584).f0) ((rd_T66 l0_3 t584).f1) ((rd_T66 l0_3 t584).f2) ((rd_T66 l0_3 t584).f3))) else (none)) else (none)))) else (none)) else (none)))) else ((saronlaw06_works.f).bind fun t580 => (some t580))) = some r := H
 have A4 := zh A40
 clear A40
 by_cases c5 : t579 = true
 ·subst c5
  have H1 : ((saronlaw06_truly.f k a0_0 a0_1 a0_2 l0_3 l1).bind fun t581 => ((saronref00_Turn.f a2 (l0_3.length : Int)).bind fun t584 => (if 0 ≤ t584 then (if t584 < (l0_3.length : Int) then ((kernel_Part.f a0_0 a0_1 a0_2 l0_3 t581 t584).bind fun bt587 => ((some (([1, 2, 4, 4, 4] : List Int) : List Int)).bind fun y591 => (if 0 ≤ ((rd_T66 l0_3 t584).f0) then (if ((rd_T66 l0_3 t584).f0) < (y591.length : Int) then (if bt587.2 = 0 then (saronlaw06_KernelPlays.j0 k t581 bt587.1 (rd y591 ((rd_T66 l0_3 t584).f0)) ((bt587.1.length : Int) != (wrap64 (Int.tdiv (wrap64 ((rd y591 ((rd_T66 l0_3 t584).f0)) * (t581.length : Int))) 2))) a0_0 a0_1 a0_2 l0_3 ((rd_T66 l0_3 t584).f0) ((rd_T66 l0_3 t584).f1) ((rd_T66 l0_3 t584).f2) ((rd_T66 l0_3 t584).f3)) else (saronlaw06_KernelPlays.j0 k t581 bt587.1 (rd y591 ((rd_T66 l0_3 t584).f0)) true a0_0 a0_1 a0_2 l0_3 ((rd_T66 l0_3 t584).f0) ((rd_T66 l0_3 t584).f1) ((rd_T66 l0_3 t584).f2) ((rd_T66 l0_3 t584).f3))) else (none)) else (none)))) else (none)) else (none)))) = some r := by rw [if_pos rfl] at H; exact H
  clear H
  have H := H1
  clear H1
  replace H := Option.bind_eq_some_iff.mp H
  obtain ⟨t581, A60, H⟩ := H
  replace H : ((saronref00_Turn.f a2 (l0_3.length : Int)).bind fun t584 => (if 0 ≤ t584 then (if t584 < (l0_3.length : Int) then ((kernel_Part.f a0_0 a0_1 a0_2 l0_3 t581 t584).bind fun bt587 => ((some (([1, 2, 4, 4, 4] : List Int) : List Int)).bind fun y591 => (if 0 ≤ ((rd_T66 l0_3 t584).f0) then (if ((rd_T66 l0_3 t584).f0) < (y591.length : Int) then (if bt587.2 = 0 then (saronlaw06_KernelPlays.j0 k t581 bt587.1 (rd y591 ((rd_T66 l0_3 t584).f0)) ((bt587.1.length : Int) != (wrap64 (Int.tdiv (wrap64 ((rd y591 ((rd_T66 l0_3 t584).f0)) * (t581.length : Int))) 2))) a0_0 a0_1 a0_2 l0_3 ((rd_T66 l0_3 t584).f0) ((rd_T66 l0_3 t584).f1) ((rd_T66 l0_3 t584).f2) ((rd_T66 l0_3 t584).f3)) else (saronlaw06_KernelPlays.j0 k t581 bt587.1 (rd y591 ((rd_T66 l0_3 t584).f0)) true a0_0 a0_1 a0_2 l0_3 ((rd_T66 l0_3 t584).f0) ((rd_T66 l0_3 t584).f1) ((rd_T66 l0_3 t584).f2) ((rd_T66 l0_3 t584).f3))) else (none)) else (none)))) else (none)) else (none))) = some r := H
  have A6 := zh A60
  clear A60
  replace H := Option.bind_eq_some_iff.mp H
  obtain ⟨t584, A70, H⟩ := H
  replace H : (if 0 ≤ t584 then (if t584 < (l0_3.length : Int) then ((kernel_Part.f a0_0 a0_1 a0_2 l0_3 t581 t584).bind fun bt587 => ((some (([1, 2, 4, 4, 4] : List Int) : List Int)).bind fun y591 => (if 0 ≤ ((rd_T66 l0_3 t584).f0) then (if ((rd_T66 l0_3 t584).f0) < (y591.length : Int) then (if bt587.2 = 0 then (saronlaw06_KernelPlays.j0 k t581 bt587.1 (rd y591 ((rd_T66 l0_3 t584).f0)) ((bt587.1.length : Int) != (wrap64 (Int.tdiv (wrap64 ((rd y591 ((rd_T66 l0_3 t584).f0)) * (t581.length : Int))) 2))) a0_0 a0_1 a0_2 l0_3 ((rd_T66 l0_3 t584).f0) ((rd_T66 l0_3 t584).f1) ((rd_T66 l0_3 t584).f2) ((rd_T66 l0_3 t584).f3)) else (saronlaw06_KernelPlays.j0 k t581 bt587.1 (rd y591 ((rd_T66 l0_3 t584).f0)) true a0_0 a0_1 a0_2 l0_3 ((rd_T66 l0_3 t584).f0) ((rd_T66 l0_3 t584).f1) ((rd_T66 l0_3 t584).f2) ((rd_T66 l0_3 t584).f3))) else (none)) else (none)))) else (none)) else (none)) = some r := H
  have A7 := zh A70
  clear A70
  by_cases c8 : 0 ≤ t584
  ·rw [if_pos c8] at H
   have c8b0 : decide (0 ≤ t584) = true := decide_eq_true c8
   clear c8
   by_cases c9 : t584 < (l0_3.length : Int)
   ·rw [if_pos c9] at H
    have c9b0 : decide (t584 < (l0_3.length : Int)) = true := decide_eq_true c9
    clear c9
    replace H := Option.bind_eq_some_iff.mp H
    obtain ⟨⟨t587, t590⟩, A100, H⟩ := H
    replace H : ((some (([1, 2, 4, 4, 4] : List Int) : List Int)).bind fun y591 => (if 0 ≤ ((rd_T66 l0_3 t584).f0) then (if ((rd_T66 l0_3 t584).f0) < (y591.length : Int) then (if t590 = 0 then (saronlaw06_KernelPlays.j0 k t581 t587 (rd y591 ((rd_T66 l0_3 t584).f0)) ((t587.length : Int) != (wrap64 (Int.tdiv (wrap64 ((rd y591 ((rd_T66 l0_3 t584).f0)) * (t581.length : Int))) 2))) a0_0 a0_1 a0_2 l0_3 ((rd_T66 l0_3 t584).f0) ((rd_T66 l0_3 t584).f1) ((rd_T66 l0_3 t584).f2) ((rd_T66 l0_3 t584).f3)) else (saronlaw06_KernelPlays.j0 k t581 t587 (rd y591 ((rd_T66 l0_3 t584).f0)) true a0_0 a0_1 a0_2 l0_3 ((rd_T66 l0_3 t584).f0) ((rd_T66 l0_3 t584).f1) ((rd_T66 l0_3 t584).f2) ((rd_T66 l0_3 t584).f3))) else (none)) else (none))) = some r := H
    have A10 := zh A100
    clear A100
    obtain ⟨y591, hy591⟩ : ∃ y_ : List Int, y_ = (([1, 2, 4, 4, 4] : List Int)) := ⟨_, rfl⟩
    replace H : (if 0 ≤ ((rd_T66 l0_3 t584).f0) then (if ((rd_T66 l0_3 t584).f0) < (y591.length : Int) then (if t590 = 0 then (saronlaw06_KernelPlays.j0 k t581 t587 (rd y591 ((rd_T66 l0_3 t584).f0)) ((t587.length : Int) != (wrap64 (Int.tdiv (wrap64 ((rd y591 ((rd_T66 l0_3 t584).f0)) * (t581.length : Int))) 2))) a0_0 a0_1 a0_2 l0_3 ((rd_T66 l0_3 t584).f0) ((rd_T66 l0_3 t584).f1) ((rd_T66 l0_3 t584).f2) ((rd_T66 l0_3 t584).f3)) else (saronlaw06_KernelPlays.j0 k t581 t587 (rd y591 ((rd_T66 l0_3 t584).f0)) true a0_0 a0_1 a0_2 l0_3 ((rd_T66 l0_3 t584).f0) ((rd_T66 l0_3 t584).f1) ((rd_T66 l0_3 t584).f2) ((rd_T66 l0_3 t584).f3))) else (none)) else (none)) = some r := by first | (rw [hy591]; with_reducible exact H) | (have H2_ := (Option.bind_some _ _).symm.trans H; rw [hy591]; with_reducible exact H2_) | (have H2_ := (Option.bind_some _ _).symm.trans H; with_reducible exact H2_) | with_reducible exact H | (rw [hy591]; exact H) | exact H
    have Ny591 := zh hy591
    clear hy591
    by_cases c11 : 0 ≤ ((rd_T66 l0_3 t584).f0)
    ·rw [if_pos c11] at H
     have c11b0 : decide (0 ≤ ((rd_T66 l0_3 t584).f0)) = true := decide_eq_true c11
     clear c11
     by_cases c12 : ((rd_T66 l0_3 t584).f0) < (y591.length : Int)
     ·rw [if_pos c12] at H
      have c12b0 : decide (((rd_T66 l0_3 t584).f0) < (y591.length : Int)) = true := decide_eq_true c12
      clear c12
      have HC13 := zh H
      clear H
      go_enter Tryd.func9, Tryd.ntmps9
      try go_wp2_with (first | ((with_reducible refine gate_dst (N := 3) rfl ?_); (try (refine gate_guard (by rfl) ?_; dsimp only)); refine box_event ?hg (N := 3) ?hd (cs := #[.int .i64 a0_0, .int .i64 a0_1, .int .i64 a0_2, .slice A0_3 l0_3.length c0_3]) (t := 24) ?hr ?_; (case hd => rfl); (case hg => rfl); (case hr => first | (go_simp; done) | (go_simp; rfl)); intro gb578 hg w14 hbox hb; have n0_ := zh (below_step zb hb); have n1_ := zh (hbox); have n2_ := zh ((by rw [hg]; exact (below_size zb) : w.heap.size ≤ gb578)); have n3_ := zh ((by rw [hg]; exact (below_size zb) : w.heap.size ≤ gb578)); clear HB; have HB := n0_; have BK578 := n1_; have GW578 := n2_; have GE578 := n3_; clear n0_ n1_ n2_ n3_; clear hb hbox hg; have hcz15_0 : w14.cell? ⟨gb578, 0, none⟩ = some (.int .i64 a0_0) := vb BK578 0; have hcz15_1 : w14.cell? ⟨gb578, 1, none⟩ = some (.int .i64 a0_1) := vb BK578 1; have hcz15_2 : w14.cell? ⟨gb578, 2, none⟩ = some (.int .i64 a0_2) := vb BK578 2; have hcz15_3 : w14.cell? ⟨gb578, 3, none⟩ = some (.slice A0_3 l0_3.length c0_3) := vb BK578 3; have hfz15_0 := blk_frozen BK578.out 0; have hfz15_1 := blk_frozen BK578.out 1; have hfz15_2 := blk_frozen BK578.out 2; have hfz15_3 := blk_frozen BK578.out 3) | ((with_reducible refine gate_callee (f := 39) rfl ?_); refine goesL_ (some 20) rfl rfl Tryd.func39 zk rfl #[.agg #[.int .i64 a0_0, .int .i64 a0_1, .int .i64 a0_2, .slice A0_3 l0_3.length c0_3]] rfl zm ?_; (with_reducible refine (saronlaw06_sound.calls k a0_0 a0_1 a0_2 _ _ l0_3 true _ ?side1 ?side2 A4.out).mono ?_); (case side1 => repeat (first | exact (Kd.C_below HR0_3.out HB.out) | (with_reducible refine Kd.C_alloc ?_ _) | (with_reducible refine Kd.C_drewN ?_ _) | (with_reducible refine Kd.C_drew ?_))); (case side2 => exact HC0_3.out); rintro e w16 ⟨rfl, hb⟩; refine ⟨_, rfl, ?_⟩; have n0_ := zh (blk_below (g := gb578) (o := .cells #[.int .i64 a0_0, .int .i64 a0_1, .int .i64 a0_2, .slice A0_3 l0_3.length c0_3] 24 (0, 0)) (zc BK578) hb); have n1_ := zh (below_step zb hb); clear BK578; clear HB; have BK578 := n0_; have HB := n1_; clear n0_ n1_; (try clear hb); (try clear hb2); (try clear hk); (try clear hi)))
      replace BK578 := zh (blk_drew BK578.out)
      replace HB := zh (below_drew1 HB.out)
      refine start_ (n := 10) (S := fun w' => w'.cell? ⟨gb578, 0, none⟩ = some (.int .i64 a0_0) ∧ w'.cell? ⟨gb578, 1, none⟩ = some (.int .i64 a0_1) ∧ w'.cell? ⟨gb578, 2, none⟩ = some (.int .i64 a0_2) ∧ w'.cell? ⟨gb578, 3, none⟩ = some (.slice A0_3 l0_3.length c0_3)) (ds := []) (Array.replicate 10 false) zk rfl rfl ⟨vb BK578 0, vb BK578 1, vb BK578 2, vb BK578 3⟩ (fun hHeld => ?_); refine with_tabW saronlaw06_KernelPlays.tab3 saronlaw06_KernelPlays.bits3 (fun HT_ HW_ => ?_)
      generalize w16.drew = w17 at BK578 HB hHeld ⊢
      refine zu 1 ?_
      refine zu 3 ?_
      refine zu 4 ?_
      refine zt 0 ?_
      refine zt 5 ?_
      refine zu 6 ?_
      refine zo 2 (fun K hK => ?_)
      refine goes_ Tryd.func40 zk rfl #[.agg #[.int .i64 a0_0, .int .i64 a0_1, .int .i64 a0_2, .slice A0_3 l0_3.length c0_3], .slice A1 l1.length c1] (by rfl) rfl rfl zm ?_
      with_reducible refine (saronlaw06_truly.calls k a0_0 a0_1 a0_2 _ _ l0_3 _ _ l1 t581 _ ?side1 ?side2 ?side3 ?side4 A6.out).mono ?_
      (case side1 => repeat (first | exact (Kd.C_below HR0_3.out HB.out) | (with_reducible refine Kd.C_alloc ?_ _) | (with_reducible refine Kd.C_drewN ?_ _) | (with_reducible refine Kd.C_drew ?_)))
      (case side2 => exact HC0_3.out)
      (case side3 => repeat (first | exact (Kd.C_below HR1.out HB.out) | (with_reducible refine Kd.C_alloc ?_ _) | (with_reducible refine Kd.C_drewN ?_ _) | (with_reducible refine Kd.C_drew ?_)))
      (case side4 => exact HC1.out)
      rintro e w18 ⟨v582, rfl, ho0, hb⟩
      refine ⟨_, rfl, ?_⟩
      have HO583 := zh (Kd.R_lower ho0 (below_size zb))
      replace BK578 := zh (blk_below (g := gb578) (o := .cells #[.int .i64 a0_0, .int .i64 a0_1, .int .i64 a0_2, .slice A0_3 l0_3.length c0_3] 24 (0, 0)) (zc BK578) hb)
      replace HB := zh (below_step zb hb)
      (try clear hb)
      (try clear hb2)
      (try clear hk)
      (try clear hi)
      (try clear ho0)
      refine hK.out _ _ ⟨vb BK578 0, vb BK578 1, vb BK578 2, vb BK578 3⟩ (fun hHeld => ?_)
      clear hK K
      refine zr 25 _ ?_
      refine zo 7 (fun K hK => ?_)
      refine goes_ Tryd.func42 zk rfl #[.int .i64 a2, .int .i64 (l0_3.length : Int)] (by rfl) rfl rfl zm ?_
      with_reducible refine (saronref00_Turn.calls a2 (l0_3.length : Int) t584 _ A7.out).mono ?_
      rintro e w' ⟨rfl, ⟨nd, rfl⟩⟩
      refine ⟨_, rfl, ?_⟩
      refine hK.out _ _ ⟨vb BK578 0, vb BK578 1, vb BK578 2, vb BK578 3⟩ (fun hHeld => ?_)
      clear hK K
      refine zr 30 _ ?_
      refine zu 8 ?_
      refine zu 9 ?_
      refine zd ?_
      have hcz19_0 : w18.cell? ⟨gb578, 0, none⟩ = some (.int .i64 a0_0) := vb BK578 0
      have hcz19_1 : w18.cell? ⟨gb578, 1, none⟩ = some (.int .i64 a0_1) := vb BK578 1
      have hcz19_2 : w18.cell? ⟨gb578, 2, none⟩ = some (.int .i64 a0_2) := vb BK578 2
      have hcz19_3 : w18.cell? ⟨gb578, 3, none⟩ = some (.slice A0_3 l0_3.length c0_3) := vb BK578 3
      have hfz19_0 := blk_frozen BK578.out 0
      have hfz19_1 := blk_frozen BK578.out 1
      have hfz19_2 := blk_frozen BK578.out 2
      have hfz19_3 := blk_frozen BK578.out 3
      have p585 : 0 ≤ (t584 : Int) := of_decide_eq_true zs
      have q585 : t584 < (l0_3.length : Int) := of_decide_eq_true zs
      obtain ⟨ad585, e585, hx585_0, hx585_1, hx585_2, hx585_3⟩ := at_T66 HR0_3.out t584 p585 q585
      cases e585
      replace hx585_0 := ve HB.out hx585_0
      replace hx585_1 := ve HB.out hx585_1
      replace hx585_2 := ve HB.out hx585_2
      replace hx585_3 := ve HB.out hx585_3
      replace p585 := eq_true p585
      replace q585 := eq_true q585
      go_upto_region 8 with (first | ((with_reducible refine gate_dst (N := 9) rfl ?_); (try (refine gate_guard (by rfl) ?_; dsimp only)); refine box_event ?hg (N := 9) ?hd (cs := #[.int .i64 0, .int .i64 0, .int .i64 0, .int .i64 0]) (t := 66) ?hr ?_; (case hd => rfl); (case hg => rfl); (case hr => first | (go_simp; done) | (go_simp; rfl)); intro gb586 hg w20 hbox hb; have n0_ := zh (Kd.R_below (zR HO583) hb); have n1_ := zh (blk_below (g := gb578) (o := .cells #[.int .i64 a0_0, .int .i64 a0_1, .int .i64 a0_2, .slice (some ad585) l0_3.length c0_3] 24 (0, 0)) (zc BK578) hb); have n2_ := zh (below_step zb hb); have n3_ := zh (hbox); have n4_ := zh ((by rw [hg]; exact (below_size zb) : w.heap.size ≤ gb586)); have n5_ := zh ((by rw [hg]; exact (below_size zb) : w.heap.size ≤ gb586)); have n6_ := zh ((by rw [hg]; exact Nat.ne_of_lt (blk_lt (g := gb578) (o := .cells #[.int .i64 a0_0, .int .i64 a0_1, .int .i64 a0_2, .slice (some ad585) l0_3.length c0_3] 24 (0, 0)) (zc BK578)) : gb578 ≠ gb586)); have n7_ := zh ((by rw [hg]; exact Nat.ne_of_gt (blk_lt (g := gb578) (o := .cells #[.int .i64 a0_0, .int .i64 a0_1, .int .i64 a0_2, .slice (some ad585) l0_3.length c0_3] 24 (0, 0)) (zc BK578)) : gb586 ≠ gb578)); clear HO583; clear BK578; clear HB; have HO583 := n0_; have BK578 := n1_; have HB := n2_; have BK586 := n3_; have GW586 := n4_; have GE586 := n5_; have NB578_586 := n6_; have NB586_578 := n7_; clear n0_ n1_ n2_ n3_ n4_ n5_ n6_ n7_; clear hb hbox hg; have hnb21 := NB586_578.out; have hnc21 := NB578_586.out; have hcz22_0 : w20.cell? ⟨gb586, 0, none⟩ = some (.int .i64 0) := vb BK586 0; have hcz22_1 : w20.cell? ⟨gb586, 1, none⟩ = some (.int .i64 0) := vb BK586 1; have hcz22_2 : w20.cell? ⟨gb586, 2, none⟩ = some (.int .i64 0) := vb BK586 2; have hcz22_3 : w20.cell? ⟨gb586, 3, none⟩ = some (.int .i64 0) := vb BK586 3; have hfz22_0 := blk_frozen BK586.out 0; have hfz22_1 := blk_frozen BK586.out 1; have hfz22_2 := blk_frozen BK586.out 2; have hfz22_3 := blk_frozen BK586.out 3; have hcz23_0 : w20.cell? ⟨gb578, 0, none⟩ = some (.int .i64 a0_0) := vb BK578 0; have hcz23_1 : w20.cell? ⟨gb578, 1, none⟩ = some (.int .i64 a0_1) := vb BK578 1; have hcz23_2 : w20.cell? ⟨gb578, 2, none⟩ = some (.int .i64 a0_2) := vb BK578 2; have hcz23_3 : w20.cell? ⟨gb578, 3, none⟩ = some (.slice (some ad585) l0_3.length c0_3) := vb BK578 3; have hfz23_0 := blk_frozen BK578.out 0; have hfz23_1 := blk_frozen BK578.out 1; have hfz23_2 := blk_frozen BK578.out 2; have hfz23_3 := blk_frozen BK578.out 3; obtain ⟨Ao24, co24, eo24⟩ := Kd.R_slice HO583.out; subst eo24) | ((with_reducible refine gate_callee (f := 16) rfl ?_); refine goesL_ (some 40) rfl rfl Tryd.func16 zk rfl #[.agg #[.int .i64 a0_0, .int .i64 a0_1, .int .i64 a0_2, .slice (some ad585) l0_3.length c0_3], .slice Ao24 t581.length co24, .int .i64 t584] rfl zm ?_; (with_reducible refine (kernel_Part.calls a0_0 a0_1 a0_2 _ _ l0_3 _ _ t581 t584 t587 t590 _ ?side1 ?side2 ?side3 ?side4 ?side5 A10.out).mono ?_); (case side1 => exact Kd.C_below HR0_3.out zb); (case side2 => exact HC0_3.out); (case side3 => refine (Kd.R_reads' (e := 3) (base := w.heap.size) (ok := fun k_ => True) (n := t581.length) (c := co24) ?_).2.2; exact dPl1); (case side4 => exact (Kd.R_reads' HO583.out).2.1); (case side5 => exact Glob.below HG.out zb); rintro e w25 ⟨v588, rfl, ho0, hb⟩; refine ⟨_, rfl, ?_⟩; have n0_ := zh (Kd.R_below dPl1 hb); have n1_ := zh (Kd.V_lower (Kd.V_mono (ok' := fun k_ => some k_ ≠ (.slice Ao24 t581.length co24 : Value).ownBlock ∧ k_ ≠ gb578 ∧ k_ ≠ gb586) ho0 (fun k_ hk_ => ⟨(Kd.fresh' (Kd.R_lt dPl1) k_ hk_), (Kd.freshB (g := gb578) (o := .cells #[.int .i64 a0_0, .int .i64 a0_1, .int .i64 a0_2, .slice (some ad585) l0_3.length c0_3] 24 (0, 0)) (by (with_reducible repeat (first | refine blk_drewN ?_ _ | refine blk_drew ?_ | refine blk_alloc ?_ _)); refine blk_far ?_ NB578_586.out _; (with_reducible repeat (first | refine blk_drewN ?_ _ | refine blk_drew ?_ | refine blk_alloc ?_ _)); refine blk_far ?_ NB578_586.out _; (with_reducible repeat (first | refine blk_drewN ?_ _ | refine blk_drew ?_ | refine blk_alloc ?_ _)); refine blk_far ?_ NB578_586.out _; (with_reducible repeat (first | refine blk_drewN ?_ _ | refine blk_drew ?_ | refine blk_alloc ?_ _)); refine blk_far ?_ NB578_586.out _; (with_reducible repeat (first | refine blk_drewN ?_ _ | refine blk_drew ?_ | refine blk_alloc ?_ _)); exact BK578.out) k_ hk_), (Kd.freshB (g := gb586) (o := .cells #[.int .i64 ((rd_T66 l0_3 t584).f0), .int .i64 ((rd_T66 l0_3 t584).f1), .int .i64 ((rd_T66 l0_3 t584).f2), .int .i64 ((rd_T66 l0_3 t584).f3)] 66 (0, 0)) (by (with_reducible repeat (first | refine blk_drewN ?_ _ | refine blk_drew ?_ | refine blk_alloc ?_ _)); refine blk_put (cs := #[.int .i64 ((rd_T66 l0_3 t584).f0), .int .i64 ((rd_T66 l0_3 t584).f1), .int .i64 ((rd_T66 l0_3 t584).f2), .int .i64 0]) ?_ 3 _ rfl; (with_reducible repeat (first | refine blk_drewN ?_ _ | refine blk_drew ?_ | refine blk_alloc ?_ _)); refine blk_put (cs := #[.int .i64 ((rd_T66 l0_3 t584).f0), .int .i64 ((rd_T66 l0_3 t584).f1), .int .i64 0, .int .i64 0]) ?_ 2 _ rfl; (with_reducible repeat (first | refine blk_drewN ?_ _ | refine blk_drew ?_ | refine blk_alloc ?_ _)); refine blk_put (cs := #[.int .i64 ((rd_T66 l0_3 t584).f0), .int .i64 0, .int .i64 0, .int .i64 0]) ?_ 1 _ rfl; (with_reducible repeat (first | refine blk_drewN ?_ _ | refine blk_drew ?_ | refine blk_alloc ?_ _)); refine blk_put (cs := #[.int .i64 0, .int .i64 0, .int .i64 0, .int .i64 0]) ?_ 0 _ rfl; (with_reducible repeat (first | refine blk_drewN ?_ _ | refine blk_drew ?_ | refine blk_alloc ?_ _)); exact BK586.out) k_ hk_)⟩)) (below_size zb)); have n2_ := zh (blk_below (g := gb578) (o := .cells #[.int .i64 a0_0, .int .i64 a0_1, .int .i64 a0_2, .slice (some ad585) l0_3.length c0_3] 24 (0, 0)) (by (with_reducible repeat (first | refine blk_drewN ?_ _ | refine blk_drew ?_ | refine blk_alloc ?_ _)); refine blk_far ?_ NB578_586.out _; (with_reducible repeat (first | refine blk_drewN ?_ _ | refine blk_drew ?_ | refine blk_alloc ?_ _)); refine blk_far ?_ NB578_586.out _; (with_reducible repeat (first | refine blk_drewN ?_ _ | refine blk_drew ?_ | refine blk_alloc ?_ _)); refine blk_far ?_ NB578_586.out _; (with_reducible repeat (first | refine blk_drewN ?_ _ | refine blk_drew ?_ | refine blk_alloc ?_ _)); refine blk_far ?_ NB578_586.out _; (with_reducible repeat (first | refine blk_drewN ?_ _ | refine blk_drew ?_ | refine blk_alloc ?_ _)); exact BK578.out) hb); have n3_ := zh (blk_below (g := gb586) (o := .cells #[.int .i64 ((rd_T66 l0_3 t584).f0), .int .i64 ((rd_T66 l0_3 t584).f1), .int .i64 ((rd_T66 l0_3 t584).f2), .int .i64 ((rd_T66 l0_3 t584).f3)] 66 (0, 0)) (by (with_reducible repeat (first | refine blk_drewN ?_ _ | refine blk_drew ?_ | refine blk_alloc ?_ _)); refine blk_put (cs := #[.int .i64 ((rd_T66 l0_3 t584).f0), .int .i64 ((rd_T66 l0_3 t584).f1), .int .i64 ((rd_T66 l0_3 t584).f2), .int .i64 0]) ?_ 3 _ rfl; (with_reducible repeat (first | refine blk_drewN ?_ _ | refine blk_drew ?_ | refine blk_alloc ?_ _)); refine blk_put (cs := #[.int .i64 ((rd_T66 l0_3 t584).f0), .int .i64 ((rd_T66 l0_3 t584).f1), .int .i64 0, .int .i64 0]) ?_ 2 _ rfl; (with_reducible repeat (first | refine blk_drewN ?_ _ | refine blk_drew ?_ | refine blk_alloc ?_ _)); refine blk_put (cs := #[.int .i64 ((rd_T66 l0_3 t584).f0), .int .i64 0, .int .i64 0, .int .i64 0]) ?_ 1 _ rfl; (with_reducible repeat (first | refine blk_drewN ?_ _ | refine blk_drew ?_ | refine blk_alloc ?_ _)); refine blk_put (cs := #[.int .i64 0, .int .i64 0, .int .i64 0, .int .i64 0]) ?_ 0 _ rfl; (with_reducible repeat (first | refine blk_drewN ?_ _ | refine blk_drew ?_ | refine blk_alloc ?_ _)); exact BK586.out) hb); have n4_ := zh (below_step zb hb); clear HO583; clear BK578; clear BK586; clear HB; have HO583 := n0_; have HO589 := n1_; have BK578 := n2_; have BK586 := n3_; have HB := n4_; clear n0_ n1_ n2_ n3_ n4_; (try clear hb); (try clear hb2); (try clear hk); (try clear hi); (try clear ho0)) | ((with_reducible refine gate_dst (N := 43) rfl ?_); (try (refine gate_guard (by rfl) ?_; dsimp only)); refine Kd.R_lit (Kd.int .i64) _ 3 ?hg (N := 43) ?hd (xs := ([1, 2, 4, 4, 4] : List Int)) (inner := [.int .i64 1, .int .i64 2, .int .i64 4, .int .i64 4, .int .i64 4]) (ok := fun _ => True) (okp := fun _ => True) ?hr ?hp (fun _ hk => hk) trivial (Below.refl _ _) (Nat.le_refl _) (by simp) ?_; (case hd => rfl); (case hg => rfl); (case hr => first | (go_simp; done) | (go_simp; rfl)); (case hp => exact (Reps.one (show Kd.M (Kd.int .i64) _ _ _ 1 [.int .i64 1] from rfl) (Reps.one (show Kd.M (Kd.int .i64) _ _ _ 2 [.int .i64 2] from rfl) (Reps.one (show Kd.M (Kd.int .i64) _ _ _ 4 [.int .i64 4] from rfl) (Reps.one (show Kd.M (Kd.int .i64) _ _ _ 4 [.int .i64 4] from rfl) (Reps.one (show Kd.M (Kd.int .i64) _ _ _ 4 [.int .i64 4] from rfl) (Reps.none _ _))))))); intro v592 w26 ho27 hb hg_ hnew_; clear hg_ hnew_; (first | rw [← Ny591.out] at ho27 | (simp only [Int.reduceToNat] at ho27; rw [← Ny591.out] at ho27)); have n0_ := zh (Kd.R_elder' (zR HO583) (Kd.R_base ho27) hb); have n1_ := zh (Kd.V_elder' (zV HO589) (Kd.R_base ho27) hb); have n2_ := zh (Kd.R_lower (Kd.R_new' ho27 (Kd.R_lt (zR HO583))) (below_size zb)); have n3_ := zh (blk_below (g := gb578) (o := .cells #[.int .i64 a0_0, .int .i64 a0_1, .int .i64 a0_2, .slice (some ad585) l0_3.length c0_3] 24 (0, 0)) (zc BK578) hb); have n4_ := zh (blk_below (g := gb586) (o := .cells #[.int .i64 ((rd_T66 l0_3 t584).f0), .int .i64 ((rd_T66 l0_3 t584).f1), .int .i64 ((rd_T66 l0_3 t584).f2), .int .i64 ((rd_T66 l0_3 t584).f3)] 66 (0, 0)) (zc BK586) hb); have n5_ := zh (below_step zb hb); clear HO583; clear HO589; clear BK578; clear BK586; clear HB; have HO583 := n0_; have HO589 := n1_; have HO593 := n2_; have BK578 := n3_; have BK586 := n4_; have HB := n5_; clear n0_ n1_ n2_ n3_ n4_ n5_; clear hb ho27; have hcz28_0 : w26.cell? ⟨gb586, 0, none⟩ = some (.int .i64 ((rd_T66 l0_3 t584).f0)) := vb BK586 0; have hcz28_1 : w26.cell? ⟨gb586, 1, none⟩ = some (.int .i64 ((rd_T66 l0_3 t584).f1)) := vb BK586 1; have hcz28_2 : w26.cell? ⟨gb586, 2, none⟩ = some (.int .i64 ((rd_T66 l0_3 t584).f2)) := vb BK586 2; have hcz28_3 : w26.cell? ⟨gb586, 3, none⟩ = some (.int .i64 ((rd_T66 l0_3 t584).f3)) := vb BK586 3; have hfz28_0 := blk_frozen BK586.out 0; have hfz28_1 := blk_frozen BK586.out 1; have hfz28_2 := blk_frozen BK586.out 2; have hfz28_3 := blk_frozen BK586.out 3; obtain ⟨Ao29, co29, eo29⟩ := Kd.R_slice HO593.out; subst eo29; have p594 : 0 ≤ (((rd_T66 l0_3 t584).f0) : Int) := of_decide_eq_true zs; have q594 : ((rd_T66 l0_3 t584).f0) < (y591.length : Int) := of_decide_eq_true zs; obtain ⟨ad594, e594, hx594_0⟩ := Kd.at_int (Kd.R_reads' HO593.out).2.2 ((rd_T66 l0_3 t584).f0) p594 q594; cases e594; replace p594 := eq_true p594; replace q594 := eq_true q594))
      (try simp only [Act.put, List.setIfInBounds_toArray, List.set_cons_zero, List.set_cons_succ])
      go_cut [60] (fun v60 wc => ∃ (kq : Nat) (x60_12 : Bool), v60 = .bool x60_12 ∧ Aside0 (saronlaw06_KernelPlays.j0 kq t581 t587 (rd y591 ((rd_T66 l0_3 t584).f0)) x60_12 a0_0 a0_1 a0_2 l0_3 ((rd_T66 l0_3 t584).f0) ((rd_T66 l0_3 t584).f1) ((rd_T66 l0_3 t584).f2) ((rd_T66 l0_3 t584).f3) = some r) ∧ Aside0 (kq ≤ k) ∧ Aside0 (Kd.R (Kd.int .i64) 3 wc w.heap.size (fun _ => True) (.slice Ao24 t581.length co24) t581) ∧ Aside0 (Kd.V (Kd.int .i64) 3 wc w.heap.size (fun k_ => some k_ ≠ ((.slice Ao24 t581.length co24) : Value).ownBlock ∧ k_ ≠ gb578 ∧ k_ ≠ gb586) v588 t587) ∧ Aside0 (wc.heap[gb578]? = some (.cells #[.int .i64 a0_0, .int .i64 a0_1, .int .i64 a0_2, (.slice (some ad585) l0_3.length c0_3)] 24 (0, 0))) ∧ Aside0 (wc.heap[gb586]? = some (.cells #[.int .i64 ((rd_T66 l0_3 t584).f0), .int .i64 ((rd_T66 l0_3 t584).f1), .int .i64 ((rd_T66 l0_3 t584).f2), .int .i64 ((rd_T66 l0_3 t584).f3)] 66 (0, 0))) ∧ Aside0 (Below w.heap.size w wc))
      case first =>
       have H := HC13.out
       clear HC13
       by_cases c30 : t590 = 0
       ·rw [if_pos c30] at H
        have c30b0 : (t590 == 0) = true := beq_iff_eq.mpr c30
        have c30b1 : (t590 != 0) = false := bne_eq_false_iff_eq.mpr c30
        clear c30
        (first | rw [c30b0] | (simp only [i64_w, i32_w]; rw [c30b0]) | skip)
        have H' := zh H
        clear H
        obtain ⟨Ao31, co31, eo31⟩ := Kd.V_slice HO589.out
        subst eo31
        go_wp2
        go_meet
        case rel => exact ⟨_, (((t587.length : Int) != (wrap64 (Int.tdiv (wrap64 ((rd y591 ((rd_T66 l0_3 t584).f0)) * (t581.length : Int))) 2)))), ze, H', ⟨zo1⟩, ⟨by (with_reducible repeat (first | apply Kd.R_alloc | apply Kd.R_drewN | apply Kd.R_drew)); exact Kd.R_mono HO583.out (fun _ hk => trivial)⟩, ⟨by (with_reducible repeat (first | apply Kd.V_alloc | apply Kd.V_drewN | apply Kd.V_drew)); exact Kd.V_mono HO589.out (fun _ hk => ⟨hk.1.1, ⟨hk.1.2.1, hk.1.2.2⟩⟩)⟩, ⟨zc BK578⟩, ⟨zc BK586⟩, ⟨zb⟩⟩
       ·rw [if_neg c30] at H
        have c30b0 : (t590 == 0) = false := beq_eq_false_iff_ne.mpr c30
        have c30b1 : (t590 != 0) = true := bne_iff_ne.mpr c30
        (first | rw [c30b0] | (simp only [i64_w, i32_w]; rw [c30b0]) | skip)
        have H' := zh H
        clear H
        go_wp2
        go_meet
        case rel => exact ⟨_, (true), ze, H', ⟨zo1⟩, ⟨by (with_reducible repeat (first | apply Kd.R_alloc | apply Kd.R_drewN | apply Kd.R_drew)); exact Kd.R_mono HO583.out (fun _ hk => trivial)⟩, ⟨by (with_reducible repeat (first | apply Kd.V_alloc | apply Kd.V_drewN | apply Kd.V_drew)); exact Kd.V_mono HO589.out (fun _ hk => ⟨hk.1.1, ⟨hk.1.2.1, hk.1.2.2⟩⟩)⟩, ⟨zc BK578⟩, ⟨zc BK586⟩, ⟨zb⟩⟩
      case rest =>
       as_aux_lemma =>
        clear HC13
        try clear c1
        try clear c2
        try clear p2
        try clear c3
        try clear c4
        try clear c5
        try clear p5
        try clear q5
        try clear hx5
        try clear p6
        try clear c8
        try clear c8b0
        try clear c9
        try clear c9b0
        try clear c11
        try clear c11b0
        try clear c12
        try clear c12b0
        try clear c16
        try clear c21
        try clear c30
        try clear c30b0
        try clear c30b1
        try clear hcz15_0
        try clear hcz15_1
        try clear hcz15_2
        try clear hcz15_3
        try clear hcz19_0
        try clear hcz19_1
        try clear hcz19_2
        try clear hcz19_3
        try clear hcz22_0
        try clear hcz22_1
        try clear hcz22_2
        try clear hcz22_3
        try clear hcz23_0
        try clear hcz23_1
        try clear hcz23_2
        try clear hcz23_3
        try clear hcz28_0
        try clear hcz28_1
        try clear hcz28_2
        try clear hcz28_3
        try clear hfz15_0
        try clear hfz15_1
        try clear hfz15_2
        try clear hfz15_3
        try clear hfz19_0
        try clear hfz19_1
        try clear hfz19_2
        try clear hfz19_3
        try clear hfz22_0
        try clear hfz22_1
        try clear hfz22_2
        try clear hfz22_3
        try clear hfz23_0
        try clear hfz23_1
        try clear hfz23_2
        try clear hfz23_3
        try clear hfz28_0
        try clear hfz28_1
        try clear hfz28_2
        try clear hfz28_3
        try clear hx585_0
        try clear hx585_1
        try clear hx585_2
        try clear hx585_3
        try clear hx594_0
        try clear p585
        try clear p594
        try clear q585
        try clear q594
        obtain ⟨kq, x60_12, rfl, HA, HJ12, HO_7, HO_10, BK578, BK586, HB⟩ := hcut
        cases kq with
        | zero => exact absurd HA.out (by simp [saronlaw06_KernelPlays.j0])
        | succ kj12 =>
         have H := HA.out
         clear HA
         simp only [saronlaw06_KernelPlays.j0] at H
         by_cases c32 : x60_12 = true
         ·subst c32
          have H1 : (some false) = some r := by rw [if_pos rfl] at H; exact H
          clear H
          have H := H1
          clear H1
          obtain rfl := Option.some.inj H
          go_wp2
          go_ret
          exact ⟨zf, zb⟩
         ·replace c32 := Bool.eq_false_iff.mpr c32
          subst c32
          have H1 : (saronlaw06_KernelPlays.l0 kj12 t581 t587 (rd y591 ((rd_T66 l0_3 t584).f0)) 0 a0_0 a0_1 a0_2 l0_3 ((rd_T66 l0_3 t584).f0) ((rd_T66 l0_3 t584).f1) ((rd_T66 l0_3 t584).f2) ((rd_T66 l0_3 t584).f3)) = some r := by rw [if_neg (show ¬ (false = true) by decide)] at H; exact H
          clear H
          have H := H1
          clear H1
          have H' := zh H
          clear H
          go_wp2
          go_loopg [14] kj12 (fun kq v14 w' => ∃ (x14_2 : Int), v14 = .int .i64 x14_2 ∧ Aside0 (saronlaw06_KernelPlays.l0 kq t581 t587 (rd y591 ((rd_T66 l0_3 t584).f0)) x14_2 a0_0 a0_1 a0_2 l0_3 ((rd_T66 l0_3 t584).f0) ((rd_T66 l0_3 t584).f1) ((rd_T66 l0_3 t584).f2) ((rd_T66 l0_3 t584).f3) = some r) ∧ Aside0 (kq ≤ kj12) ∧ Aside0 (Kd.R (Kd.int .i64) 3 w' w.heap.size (fun _ => True) (.slice Ao24 t581.length co24) t581) ∧ Aside0 (Kd.V (Kd.int .i64) 3 w' w.heap.size (fun k_ => some k_ ≠ ((.slice Ao24 t581.length co24) : Value).ownBlock ∧ k_ ≠ gb578 ∧ k_ ≠ gb586) v588 t587) ∧ Aside0 (w'.heap[gb578]? = some (.cells #[.int .i64 a0_0, .int .i64 a0_1, .int .i64 a0_2, (.slice (some ad585) l0_3.length c0_3)] 24 (0, 0))) ∧ Aside0 (w'.heap[gb586]? = some (.cells #[.int .i64 ((rd_T66 l0_3 t584).f0), .int .i64 ((rd_T66 l0_3 t584).f1), .int .i64 ((rd_T66 l0_3 t584).f2), .int .i64 ((rd_T66 l0_3 t584).f3)] 66 (0, 0))) ∧ Aside0 (Below w.heap.size w w'))
          case atStart => exact ⟨(0), ze, H', ⟨Nat.le_refl _⟩, ⟨zR HO_7⟩, ⟨zV HO_10⟩, ⟨zc BK578⟩, ⟨zc BK586⟩, ⟨zb⟩⟩
          case round =>
           as_aux_lemma =>
            clear H'
            try clear c1
            try clear c2
            try clear p2
            try clear c3
            try clear c4
            try clear c5
            try clear p5
            try clear q5
            try clear hx5
            try clear p6
            try clear c8
            try clear c8b0
            try clear c9
            try clear c9b0
            try clear c11
            try clear c11b0
            try clear c12
            try clear c12b0
            try clear c16
            try clear c21
            try clear c30
            try clear c30b0
            try clear c30b1
            try clear c32
            try clear hcz15_0
            try clear hcz15_1
            try clear hcz15_2
            try clear hcz15_3
            try clear hcz19_0
            try clear hcz19_1
            try clear hcz19_2
            try clear hcz19_3
            try clear hcz22_0
            try clear hcz22_1
            try clear hcz22_2
            try clear hcz22_3
            try clear hcz23_0
            try clear hcz23_1
            try clear hcz23_2
            try clear hcz23_3
            try clear hcz28_0
            try clear hcz28_1
            try clear hcz28_2
            try clear hcz28_3
            try clear hfz15_0
            try clear hfz15_1
            try clear hfz15_2
            try clear hfz15_3
            try clear hfz19_0
            try clear hfz19_1
            try clear hfz19_2
            try clear hfz19_3
            try clear hfz22_0
            try clear hfz22_1
            try clear hfz22_2
            try clear hfz22_3
            try clear hfz23_0
            try clear hfz23_1
            try clear hfz23_2
            try clear hfz23_3
            try clear hfz28_0
            try clear hfz28_1
            try clear hfz28_2
            try clear hfz28_3
            try clear hx585_0
            try clear hx585_1
            try clear hx585_2
            try clear hx585_3
            try clear hx594_0
            try clear p2
            try clear p5
            try clear p585
            try clear p594
            try clear p6
            try clear q5
            try clear q585
            try clear q594
            obtain ⟨x14_2, rfl, HA, HK2, HO_7, HO_10, BK578, BK586, HB⟩ := hrel
            cases gk with
            | zero => exact absurd HA.out (by simp [saronlaw06_KernelPlays.l0])
            | succ k2 =>
             have H := HA.out
             clear HA
             simp only [saronlaw06_KernelPlays.l0] at H
             by_cases c33 : x14_2 < (t587.length : Int)
             ·rw [if_pos c33] at H
              have c33b0 : decide (x14_2 < (t587.length : Int)) = true := decide_eq_true c33
              clear c33
              by_cases c34 : (rd y591 ((rd_T66 l0_3 t584).f0)) = 0
              ·rw [if_pos c34] at H
               exact absurd H (by simp)
              ·rw [if_neg c34] at H
               have c34b0 : ((rd y591 ((rd_T66 l0_3 t584).f0)) == 0) = false := beq_eq_false_iff_ne.mpr c34
               have c34b1 : ((rd y591 ((rd_T66 l0_3 t584).f0)) != 0) = true := bne_iff_ne.mpr c34
               have HC35 := zh H
               clear H
               obtain ⟨Ao36, co36, eo36⟩ := Kd.V_slice HO_10.out
               subst eo36
               have hnb37 := NB586_578.out
               have hnc37 := NB578_586.out
               have hcz38_0 : wr.cell? ⟨gb586, 0, none⟩ = some (.int .i64 ((rd_T66 l0_3 t584).f0)) := vb BK586 0
               have hcz38_1 : wr.cell? ⟨gb586, 1, none⟩ = some (.int .i64 ((rd_T66 l0_3 t584).f1)) := vb BK586 1
               have hcz38_2 : wr.cell? ⟨gb586, 2, none⟩ = some (.int .i64 ((rd_T66 l0_3 t584).f2)) := vb BK586 2
               have hcz38_3 : wr.cell? ⟨gb586, 3, none⟩ = some (.int .i64 ((rd_T66 l0_3 t584).f3)) := vb BK586 3
               have hfz38_0 := blk_frozen BK586.out 0
               have hfz38_1 := blk_frozen BK586.out 1
               have hfz38_2 := blk_frozen BK586.out 2
               have hfz38_3 := blk_frozen BK586.out 3
               go_upto_block 2 with (fail)
               go_cut [15, 16] (fun v15 v16 wc => ∃ (kq : Nat) (x15_34 : Int) (x16_34 : Int), v15 = .int .i64 x15_34 ∧ v16 = .int .i64 x16_34 ∧ Aside0 (saronlaw06_KernelPlays.j3 kq t581 t587 (rd y591 ((rd_T66 l0_3 t584).f0)) x14_2 x15_34 x16_34 a0_0 a0_1 a0_2 l0_3 ((rd_T66 l0_3 t584).f0) ((rd_T66 l0_3 t584).f1) ((rd_T66 l0_3 t584).f2) ((rd_T66 l0_3 t584).f3) = some r) ∧ Aside0 (kq ≤ k2) ∧ Aside0 (Kd.R (Kd.int .i64) 3 wc w.heap.size (fun _ => True) (.slice Ao24 t581.length co24) t581) ∧ Aside0 (Kd.V (Kd.int .i64) 3 wc w.heap.size (fun k_ => some k_ ≠ ((.slice Ao24 t581.length co24) : Value).ownBlock ∧ k_ ≠ gb578 ∧ k_ ≠ gb586) (.slice Ao36 t587.length co36) t587) ∧ Aside0 (wc.heap[gb578]? = some (.cells #[.int .i64 a0_0, .int .i64 a0_1, .int .i64 a0_2, (.slice (some ad585) l0_3.length c0_3)] 24 (0, 0))) ∧ Aside0 (wc.heap[gb586]? = some (.cells #[.int .i64 ((rd_T66 l0_3 t584).f0), .int .i64 ((rd_T66 l0_3 t584).f1), .int .i64 ((rd_T66 l0_3 t584).f2), .int .i64 ((rd_T66 l0_3 t584).f3)] 66 (0, 0))) ∧ Aside0 (Below w.heap.size w wc))
               case first =>
                as_aux_lemma =>
                 have H := HC35.out
                 clear HC35
                 by_cases c39 : ((rd_T66 l0_3 t584).f0) = 0
                 ·rw [if_pos c39] at H
                  have c39b0 : (((rd_T66 l0_3 t584).f0) == 0) = true := beq_iff_eq.mpr c39
                  have c39b1 : (((rd_T66 l0_3 t584).f0) != 0) = false := bne_eq_false_iff_eq.mpr c39
                  clear c39
                  (first | rw [c39b0] | (simp only [i64_w, i32_w]; rw [c39b0]) | skip)
                  have H' := zh H
                  clear H
                  go_wp2
                  go_meet
                  case rel => exact ⟨_, (wrap64 ((wrap64 ((wrap64 (Int.tdiv x14_2 (rd y591 ((rd_T66 l0_3 t584).f0)))) * 2)) + 1)), (0), ze, ze, H', ⟨by have := HJ12.out; have := HK2.out; first | omega | exact Nat.le_refl _⟩, ⟨zR HO_7⟩, ⟨zV HO_10⟩, ⟨zc BK578⟩, ⟨zc BK586⟩, ⟨zb⟩⟩
                 ·rw [if_neg c39] at H
                  have c39b0 : (((rd_T66 l0_3 t584).f0) == 0) = false := beq_eq_false_iff_ne.mpr c39
                  have c39b1 : (((rd_T66 l0_3 t584).f0) != 0) = true := bne_iff_ne.mpr c39
                  (first | rw [c39b0] | (simp only [i64_w, i32_w]; rw [c39b0]) | skip)
                  have HC40 := zh H
                  clear H
                  go_upto_if 87 with (fail)
                  go_cut [87] (fun v87 wc => ∃ (kq : Nat) (x87_39 : Bool), v87 = .bool x87_39 ∧ Aside0 (saronlaw06_KernelPlays.j2 kq t581 t587 (rd y591 ((rd_T66 l0_3 t584).f0)) x14_2 (wrap64 ((wrap64 (Int.tdiv x14_2 (rd y591 ((rd_T66 l0_3 t584).f0)))) * 2)) 0 ((rd_T66 l0_3 t584).f0) x87_39 a0_0 a0_1 a0_2 l0_3 ((rd_T66 l0_3 t584).f0) ((rd_T66 l0_3 t584).f1) ((rd_T66 l0_3 t584).f2) ((rd_T66 l0_3 t584).f3) = some r) ∧ Aside0 (kq ≤ k2) ∧ Aside0 (Kd.R (Kd.int .i64) 3 wc w.heap.size (fun _ => True) (.slice Ao24 t581.length co24) t581) ∧ Aside0 (Kd.V (Kd.int .i64) 3 wc w.heap.size (fun k_ => some k_ ≠ ((.slice Ao24 t581.length co24) : Value).ownBlock ∧ k_ ≠ gb578 ∧ k_ ≠ gb586) (.slice Ao36 t587.length co36) t587) ∧ Aside0 (wc.heap[gb578]? = some (.cells #[.int .i64 a0_0, .int .i64 a0_1, .int .i64 a0_2, (.slice (some ad585) l0_3.length c0_3)] 24 (0, 0))) ∧ Aside0 (wc.heap[gb586]? = some (.cells #[.int .i64 ((rd_T66 l0_3 t584).f0), .int .i64 ((rd_T66 l0_3 t584).f1), .int .i64 ((rd_T66 l0_3 t584).f2), .int .i64 ((rd_T66 l0_3 t584).f3)] 66 (0, 0))) ∧ Aside0 (Below w.heap.size w wc))
                  case first =>
                   have H := HC40.out
                   clear HC40
                   by_cases c41 : ((rd_T66 l0_3 t584).f0) = 1
                   ·rw [if_pos c41] at H
                    have c41b0 : (((rd_T66 l0_3 t584).f0) == 1) = true := beq_iff_eq.mpr c41
                    have c41b1 : (((rd_T66 l0_3 t584).f0) != 1) = false := bne_eq_false_iff_eq.mpr c41
                    clear c41
                    (first | rw [c41b0] | (simp only [i64_w, i32_w]; rw [c41b0]) | skip)
                    have H' := zh H
                    clear H
                    go_wp2
                    go_meet
                    case rel => exact ⟨_, ((((rd_T66 l0_3 t584).f0) == 1)), ze, H', ⟨by have := HJ12.out; have := HK2.out; first | omega | exact Nat.le_refl _⟩, ⟨zR HO_7⟩, ⟨zV HO_10⟩, ⟨zc BK578⟩, ⟨zc BK586⟩, ⟨zb⟩⟩
                   ·rw [if_neg c41] at H
                    have c41b0 : (((rd_T66 l0_3 t584).f0) == 1) = false := beq_eq_false_iff_ne.mpr c41
                    have c41b1 : (((rd_T66 l0_3 t584).f0) != 1) = true := bne_iff_ne.mpr c41
                    (first | rw [c41b0] | (simp only [i64_w, i32_w]; rw [c41b0]) | skip)
                    have H' := zh H
                    clear H
                    go_wp2
                    go_meet
                    case rel => exact ⟨_, ((((rd_T66 l0_3 t584).f0) == 3)), ze, H', ⟨by have := HJ12.out; have := HK2.out; first | omega | exact Nat.le_refl _⟩, ⟨zR HO_7⟩, ⟨zV HO_10⟩, ⟨zc BK578⟩, ⟨zc BK586⟩, ⟨zb⟩⟩
                  case rest =>
                   as_aux_lemma =>
                    clear HC40
                    try clear c1
                    try clear c2
                    try clear p2
                    try clear c3
                    try clear c4
                    try clear c5
                    try clear p5
                    try clear q5
                    try clear hx5
                    try clear p6
                    try clear c8
                    try clear c8b0
                    try clear c9
                    try clear c9b0
                    try clear c11
                    try clear c11b0
                    try clear c12
                    try clear c12b0
                    try clear c16
                    try clear c21
                    try clear c30
                    try clear c30b0
                    try clear c30b1
                    try clear c32
                    try clear c33
                    try clear c33b0
                    try clear c34
                    try clear c34b0
                    try clear c34b1
                    try clear c37
                    try clear c39
                    try clear c39b0
                    try clear c39b1
                    try clear c40
                    try clear c41
                    try clear c41b0
                    try clear c41b1
                    try clear hcz15_0
                    try clear hcz15_1
                    try clear hcz15_2
                    try clear hcz15_3
                    try clear hcz19_0
                    try clear hcz19_1
                    try clear hcz19_2
                    try clear hcz19_3
                    try clear hcz22_0
                    try clear hcz22_1
                    try clear hcz22_2
                    try clear hcz22_3
                    try clear hcz23_0
                    try clear hcz23_1
                    try clear hcz23_2
                    try clear hcz23_3
                    try clear hcz28_0
                    try clear hcz28_1
                    try clear hcz28_2
                    try clear hcz28_3
                    try clear hcz38_0
                    try clear hcz38_1
                    try clear hcz38_2
                    try clear hcz38_3
                    try clear hfz15_0
                    try clear hfz15_1
                    try clear hfz15_2
                    try clear hfz15_3
                    try clear hfz19_0
                    try clear hfz19_1
                    try clear hfz19_2
                    try clear hfz19_3
                    try clear hfz22_0
                    try clear hfz22_1
                    try clear hfz22_2
                    try clear hfz22_3
                    try clear hfz23_0
                    try clear hfz23_1
                    try clear hfz23_2
                    try clear hfz23_3
                    try clear hfz28_0
                    try clear hfz28_1
                    try clear hfz28_2
                    try clear hfz28_3
                    try clear hfz38_0
                    try clear hfz38_1
                    try clear hfz38_2
                    try clear hfz38_3
                    try clear hx585_0
                    try clear hx585_1
                    try clear hx585_2
                    try clear hx585_3
                    try clear hx594_0
                    try clear p2
                    try clear p5
                    try clear p585
                    try clear p594
                    try clear p6
                    try clear q5
                    try clear q585
                    try clear q594
                    obtain ⟨kq, x87_39, rfl, HA, HJ39, HO_7, HO_10, BK578, BK586, HB⟩ := hcut
                    cases kq with
                    | zero => exact absurd HA.out (by simp [saronlaw06_KernelPlays.j2])
                    | succ kj39 =>
                     have H := HA.out
                     clear HA
                     simp only [saronlaw06_KernelPlays.j2] at H
                     by_cases c42 : x87_39 = true
                     ·subst c42
                      have H1 : (saronlaw06_KernelPlays.j3 kj39 t581 t587 (rd y591 ((rd_T66 l0_3 t584).f0)) x14_2 (wrap64 ((wrap64 ((wrap64 (Int.tdiv x14_2 (rd y591 ((rd_T66 l0_3 t584).f0)))) * 2)) + (Int.tmod x14_2 2))) 0 a0_0 a0_1 a0_2 l0_3 ((rd_T66 l0_3 t584).f0) ((rd_T66 l0_3 t584).f1) ((rd_T66 l0_3 t584).f2) ((rd_T66 l0_3 t584).f3)) = some r := by rw [if_pos rfl] at H; exact H
                      clear H
                      have H := H1
                      clear H1
                      have H' := zh H
                      clear H
                      go_wp2
                      go_meet
                      case rel => exact ⟨_, (wrap64 ((wrap64 ((wrap64 (Int.tdiv x14_2 (rd y591 ((rd_T66 l0_3 t584).f0)))) * 2)) + (Int.tmod x14_2 2))), (0), ze, ze, H', ⟨by have := HJ12.out; have := HK2.out; have := HJ39.out; first | omega | exact Nat.le_refl _⟩, ⟨zR HO_7⟩, ⟨zV HO_10⟩, ⟨zc BK578⟩, ⟨zc BK586⟩, ⟨zb⟩⟩
                     ·replace c42 := Bool.eq_false_iff.mpr c42
                      subst c42
                      have H1 : (if ((rd_T66 l0_3 t584).f0) = 2 then (saronlaw06_KernelPlays.j3 kj39 t581 t587 (rd y591 ((rd_T66 l0_3 t584).f0)) x14_2 (wrap64 ((wrap64 ((wrap64 (Int.tdiv x14_2 (rd y591 ((rd_T66 l0_3 t584).f0)))) * 2)) + (wrap64 (Int.tdiv (Int.tmod x14_2 4) 2)))) 0 a0_0 a0_1 a0_2 l0_3 ((rd_T66 l0_3 t584).f0) ((rd_T66 l0_3 t584).f1) ((rd_T66 l0_3 t584).f2) ((rd_T66 l0_3 t584).f3)) else (if (Int.tmod x14_2 2) = 0 then (saronlaw06_KernelPlays.j3 kj39 t581 t587 (rd y591 ((rd_T66 l0_3 t584).f0)) x14_2 (wrap64 ((wrap64 ((wrap64 (Int.tdiv x14_2 (rd y591 ((rd_T66 l0_3 t584).f0)))) * 2)) + (wrap64 (Int.tdiv (Int.tmod x14_2 4) 2)))) ((rd_T66 l0_3 t584).f3) a0_0 a0_1 a0_2 l0_3 ((rd_T66 l0_3 t584).f0) ((rd_T66 l0_3 t584).f1) ((rd_T66 l0_3 t584).f2) ((rd_T66 l0_3 t584).f3)) else (saronlaw06_KernelPlays.j3 kj39 t581 t587 (rd y591 ((rd_T66 l0_3 t584).f0)) x14_2 (wrap64 ((wrap64 ((wrap64 (Int.tdiv x14_2 (rd y591 ((rd_T66 l0_3 t584).f0)))) * 2)) + (wrap64 (Int.tdiv (Int.tmod x14_2 4) 2)))) 0 a0_0 a0_1 a0_2 l0_3 ((rd_T66 l0_3 t584).f0) ((rd_T66 l0_3 t584).f1) ((rd_T66 l0_3 t584).f2) ((rd_T66 l0_3 t584).f3)))) = some r := by rw [if_neg (show ¬ (false = true) by decide)] at H; exact H
                      clear H
                      have H := H1
                      clear H1
                      by_cases c43 : ((rd_T66 l0_3 t584).f0) = 2
                      ·rw [if_pos c43] at H
                       have c43b0 : (((rd_T66 l0_3 t584).f0) == 2) = true := beq_iff_eq.mpr c43
                       have c43b1 : (((rd_T66 l0_3 t584).f0) != 2) = false := bne_eq_false_iff_eq.mpr c43
                       clear c43
                       have H' := zh H
                       clear H
                       go_wp2
                       go_meet
                       case rel => exact ⟨_, (wrap64 ((wrap64 ((wrap64 (Int.tdiv x14_2 (rd y591 ((rd_T66 l0_3 t584).f0)))) * 2)) + (wrap64 (Int.tdiv (Int.tmod x14_2 4) 2)))), (0), ze, ze, H', ⟨by have := HJ12.out; have := HK2.out; have := HJ39.out; first | omega | exact Nat.le_refl _⟩, ⟨zR HO_7⟩, ⟨zV HO_10⟩, ⟨zc BK578⟩, ⟨zc BK586⟩, ⟨zb⟩⟩
                      ·rw [if_neg c43] at H
                       have c43b0 : (((rd_T66 l0_3 t584).f0) == 2) = false := beq_eq_false_iff_ne.mpr c43
                       have c43b1 : (((rd_T66 l0_3 t584).f0) != 2) = true := bne_iff_ne.mpr c43
                       by_cases c44 : (Int.tmod x14_2 2) = 0
                       ·rw [if_pos c44] at H
                        have c44b0 : ((Int.tmod x14_2 2) == 0) = true := beq_iff_eq.mpr c44
                        have c44b1 : ((Int.tmod x14_2 2) != 0) = false := bne_eq_false_iff_eq.mpr c44
                        clear c44
                        have H' := zh H
                        clear H
                        have hnb45 := NB586_578.out
                        have hnc45 := NB578_586.out
                        have hcz46_0 : wc.cell? ⟨gb586, 0, none⟩ = some (.int .i64 ((rd_T66 l0_3 t584).f0)) := vb BK586 0
                        have hcz46_1 : wc.cell? ⟨gb586, 1, none⟩ = some (.int .i64 ((rd_T66 l0_3 t584).f1)) := vb BK586 1
                        have hcz46_2 : wc.cell? ⟨gb586, 2, none⟩ = some (.int .i64 ((rd_T66 l0_3 t584).f2)) := vb BK586 2
                        have hcz46_3 : wc.cell? ⟨gb586, 3, none⟩ = some (.int .i64 ((rd_T66 l0_3 t584).f3)) := vb BK586 3
                        have hfz46_0 := blk_frozen BK586.out 0
                        have hfz46_1 := blk_frozen BK586.out 1
                        have hfz46_2 := blk_frozen BK586.out 2
                        have hfz46_3 := blk_frozen BK586.out 3
                        go_wp2
                        go_meet
                        case rel => exact ⟨_, (wrap64 ((wrap64 ((wrap64 (Int.tdiv x14_2 (rd y591 ((rd_T66 l0_3 t584).f0)))) * 2)) + (wrap64 (Int.tdiv (Int.tmod x14_2 4) 2)))), (((rd_T66 l0_3 t584).f3)), ze, ze, H', ⟨by have := HJ12.out; have := HK2.out; have := HJ39.out; first | omega | exact Nat.le_refl _⟩, ⟨zR HO_7⟩, ⟨zV HO_10⟩, ⟨zc BK578⟩, ⟨zc BK586⟩, ⟨zb⟩⟩
                       ·rw [if_neg c44] at H
                        have c44b0 : ((Int.tmod x14_2 2) == 0) = false := beq_eq_false_iff_ne.mpr c44
                        have c44b1 : ((Int.tmod x14_2 2) != 0) = true := bne_iff_ne.mpr c44
                        have H' := zh H
                        clear H
                        go_wp2
                        go_meet
                        case rel => exact ⟨_, (wrap64 ((wrap64 ((wrap64 (Int.tdiv x14_2 (rd y591 ((rd_T66 l0_3 t584).f0)))) * 2)) + (wrap64 (Int.tdiv (Int.tmod x14_2 4) 2)))), (0), ze, ze, H', ⟨by have := HJ12.out; have := HK2.out; have := HJ39.out; first | omega | exact Nat.le_refl _⟩, ⟨zR HO_7⟩, ⟨zV HO_10⟩, ⟨zc BK578⟩, ⟨zc BK586⟩, ⟨zb⟩⟩
               case rest =>
                as_aux_lemma =>
                 clear HC35
                 try clear c1
                 try clear c2
                 try clear p2
                 try clear c3
                 try clear c4
                 try clear c5
                 try clear p5
                 try clear q5
                 try clear hx5
                 try clear p6
                 try clear c8
                 try clear c8b0
                 try clear c9
                 try clear c9b0
                 try clear c11
                 try clear c11b0
                 try clear c12
                 try clear c12b0
                 try clear c16
                 try clear c21
                 try clear c30
                 try clear c30b0
                 try clear c30b1
                 try clear c32
                 try clear c33
                 try clear c33b0
                 try clear c34
                 try clear c34b0
                 try clear c34b1
                 try clear c37
                 try clear c39
                 try clear c39b0
                 try clear c39b1
                 try clear c40
                 try clear c41
                 try clear c41b0
                 try clear c41b1
                 try clear c42
                 try clear c43
                 try clear c43b0
                 try clear c43b1
                 try clear c44
                 try clear c44b0
                 try clear c44b1
                 try clear c45
                 try clear hcz15_0
                 try clear hcz15_1
                 try clear hcz15_2
                 try clear hcz15_3
                 try clear hcz19_0
                 try clear hcz19_1
                 try clear hcz19_2
                 try clear hcz19_3
                 try clear hcz22_0
                 try clear hcz22_1
                 try clear hcz22_2
                 try clear hcz22_3
                 try clear hcz23_0
                 try clear hcz23_1
                 try clear hcz23_2
                 try clear hcz23_3
                 try clear hcz28_0
                 try clear hcz28_1
                 try clear hcz28_2
                 try clear hcz28_3
                 try clear hcz38_0
                 try clear hcz38_1
                 try clear hcz38_2
                 try clear hcz38_3
                 try clear hcz46_0
                 try clear hcz46_1
                 try clear hcz46_2
                 try clear hcz46_3
                 try clear hfz15_0
                 try clear hfz15_1
                 try clear hfz15_2
                 try clear hfz15_3
                 try clear hfz19_0
                 try clear hfz19_1
                 try clear hfz19_2
                 try clear hfz19_3
                 try clear hfz22_0
                 try clear hfz22_1
                 try clear hfz22_2
                 try clear hfz22_3
                 try clear hfz23_0
                 try clear hfz23_1
                 try clear hfz23_2
                 try clear hfz23_3
                 try clear hfz28_0
                 try clear hfz28_1
                 try clear hfz28_2
                 try clear hfz28_3
                 try clear hfz38_0
                 try clear hfz38_1
                 try clear hfz38_2
                 try clear hfz38_3
                 try clear hfz46_0
                 try clear hfz46_1
                 try clear hfz46_2
                 try clear hfz46_3
                 try clear hx585_0
                 try clear hx585_1
                 try clear hx585_2
                 try clear hx585_3
                 try clear hx594_0
                 try clear p2
                 try clear p5
                 try clear p585
                 try clear p594
                 try clear p6
                 try clear q5
                 try clear q585
                 try clear q594
                 obtain ⟨kq, x15_34, x16_34, rfl, rfl, HA, HJ34, HO_7, HO_10, BK578, BK586, HB⟩ := hcut
                 cases kq with
                 | zero => exact absurd HA.out (by simp [saronlaw06_KernelPlays.j3])
                 | succ kj34 =>
                  have H := HA.out
                  clear HA
                  simp only [saronlaw06_KernelPlays.j3] at H
                  by_cases c47 : 0 ≤ x15_34
                  ·rw [if_pos c47] at H
                   have c47b0 : decide (0 ≤ x15_34) = true := decide_eq_true c47
                   clear c47
                   by_cases c48 : x15_34 < (t581.length : Int)
                   ·rw [if_pos c48] at H
                    have c48b0 : decide (x15_34 < (t581.length : Int)) = true := decide_eq_true c48
                    clear c48
                    by_cases c49 : 0 ≤ x14_2
                    ·rw [if_pos c49] at H
                     have c49b0 : decide (0 ≤ x14_2) = true := decide_eq_true c49
                     clear c49
                     by_cases c50 : x14_2 < (t587.length : Int)
                     ·rw [if_pos c50] at H
                      have c50b0 : decide (x14_2 < (t587.length : Int)) = true := decide_eq_true c50
                      clear c50
                      by_cases c51 : (rd t587 x14_2) = (-1)
                      ·rw [if_pos c51] at H
                       have c51b0 : ((rd t587 x14_2) == (-1)) = true := beq_iff_eq.mpr c51
                       have c51b1 : ((rd t587 x14_2) != (-1)) = false := bne_eq_false_iff_eq.mpr c51
                       clear c51
                       have H' := zh H
                       clear H
                       have p596 : 0 ≤ (x15_34 : Int) := of_decide_eq_true zs
                       have q596 : x15_34 < (t581.length : Int) := of_decide_eq_true zs
                       obtain ⟨ad596, e596, hx596_0⟩ := Kd.at_int (Kd.R_reads' HO_7.out).2.2 x15_34 p596 q596
                       cases e596
                       replace p596 := eq_true p596
                       replace q596 := eq_true q596
                       have p597 : 0 ≤ (x14_2 : Int) := of_decide_eq_true zs
                       have q597 : x14_2 < (t587.length : Int) := of_decide_eq_true zs
                       obtain ⟨ad597, e597, hx597_0⟩ := Kd.at_int (Kd.V_reads' HO_10.out).2.2 x14_2 p597 q597
                       cases e597
                       replace p597 := eq_true p597
                       replace q597 := eq_true q597
                       have hnb52 := NB586_578.out
                       have hnc52 := NB578_586.out
                       have hcz53_0 : wc.cell? ⟨gb586, 0, none⟩ = some (.int .i64 ((rd_T66 l0_3 t584).f0)) := vb BK586 0
                       have hcz53_1 : wc.cell? ⟨gb586, 1, none⟩ = some (.int .i64 ((rd_T66 l0_3 t584).f1)) := vb BK586 1
                       have hcz53_2 : wc.cell? ⟨gb586, 2, none⟩ = some (.int .i64 ((rd_T66 l0_3 t584).f2)) := vb BK586 2
                       have hcz53_3 : wc.cell? ⟨gb586, 3, none⟩ = some (.int .i64 ((rd_T66 l0_3 t584).f3)) := vb BK586 3
                       have hfz53_0 := blk_frozen BK586.out 0
                       have hfz53_1 := blk_frozen BK586.out 1
                       have hfz53_2 := blk_frozen BK586.out 2
                       have hfz53_3 := blk_frozen BK586.out 3
                       go_wp2
                       go_loopg [18] kj34 (fun kq v18 w' => ∃ (x18_4 : Int), v18 = .int .i64 x18_4 ∧ Aside0 (saronlaw06_KernelPlays.l1 kq t581 t587 (rd y591 ((rd_T66 l0_3 t584).f0)) x14_2 (wrap64 ((rd t581 x15_34) + x16_34)) x18_4 a0_0 a0_1 a0_2 l0_3 ((rd_T66 l0_3 t584).f0) ((rd_T66 l0_3 t584).f1) ((rd_T66 l0_3 t584).f2) ((rd_T66 l0_3 t584).f3) = some r) ∧ Aside0 (kq ≤ kj34) ∧ Aside0 (Kd.R (Kd.int .i64) 3 w' w.heap.size (fun _ => True) (.slice (some ad596) t581.length co24) t581) ∧ Aside0 (Kd.V (Kd.int .i64) 3 w' w.heap.size (fun k_ => some k_ ≠ ((.slice (some ad596) t581.length co24) : Value).ownBlock ∧ k_ ≠ gb578 ∧ k_ ≠ gb586) (.slice (some ad597) t587.length co36) t587) ∧ Aside0 (w'.heap[gb578]? = some (.cells #[.int .i64 a0_0, .int .i64 a0_1, .int .i64 a0_2, (.slice (some ad585) l0_3.length c0_3)] 24 (0, 0))) ∧ Aside0 (w'.heap[gb586]? = some (.cells #[.int .i64 ((rd_T66 l0_3 t584).f0), .int .i64 ((rd_T66 l0_3 t584).f1), .int .i64 ((rd_T66 l0_3 t584).f2), .int .i64 ((rd_T66 l0_3 t584).f3)] 66 (0, 0))) ∧ Aside0 (Below w.heap.size w w'))
                       case atStart => exact ⟨(((rd_T66 l0_3 t584).f1)), ze, H', ⟨Nat.le_refl _⟩, ⟨zR HO_7⟩, ⟨zV HO_10⟩, ⟨zc BK578⟩, ⟨zc BK586⟩, ⟨zb⟩⟩
                       case round =>
                        as_aux_lemma =>
                         clear H'
                         try clear c1
                         try clear c2
                         try clear p2
                         try clear c3
                         try clear c4
                         try clear c5
                         try clear p5
                         try clear q5
                         try clear hx5
                         try clear p6
                         try clear c8
                         try clear c8b0
                         try clear c9
                         try clear c9b0
                         try clear c11
                         try clear c11b0
                         try clear c12
                         try clear c12b0
                         try clear c16
                         try clear c21
                         try clear c30
                         try clear c30b0
                         try clear c30b1
                         try clear c32
                         try clear c33
                         try clear c33b0
                         try clear c34
                         try clear c34b0
                         try clear c34b1
                         try clear c37
                         try clear c39
                         try clear c39b0
                         try clear c39b1
                         try clear c40
                         try clear c41
                         try clear c41b0
                         try clear c41b1
                         try clear c42
                         try clear c43
                         try clear c43b0
                         try clear c43b1
                         try clear c44
                         try clear c44b0
                         try clear c44b1
                         try clear c45
                         try clear c47
                         try clear c47b0
                         try clear c48
                         try clear c48b0
                         try clear c49
                         try clear c49b0
                         try clear c50
                         try clear c50b0
                         try clear c51
                         try clear c51b0
                         try clear c51b1
                         try clear c52
                         try clear hcz15_0
                         try clear hcz15_1
                         try clear hcz15_2
                         try clear hcz15_3
                         try clear hcz19_0
                         try clear hcz19_1
                         try clear hcz19_2
                         try clear hcz19_3
                         try clear hcz22_0
                         try clear hcz22_1
                         try clear hcz22_2
                         try clear hcz22_3
                         try clear hcz23_0
                         try clear hcz23_1
                         try clear hcz23_2
                         try clear hcz23_3
                         try clear hcz28_0
                         try clear hcz28_1
                         try clear hcz28_2
                         try clear hcz28_3
                         try clear hcz38_0
                         try clear hcz38_1
                         try clear hcz38_2
                         try clear hcz38_3
                         try clear hcz46_0
                         try clear hcz46_1
                         try clear hcz46_2
                         try clear hcz46_3
                         try clear hcz53_0
                         try clear hcz53_1
                         try clear hcz53_2
                         try clear hcz53_3
                         try clear hfz15_0
                         try clear hfz15_1
                         try clear hfz15_2
                         try clear hfz15_3
                         try clear hfz19_0
                         try clear hfz19_1
                         try clear hfz19_2
                         try clear hfz19_3
                         try clear hfz22_0
                         try clear hfz22_1
                         try clear hfz22_2
                         try clear hfz22_3
                         try clear hfz23_0
                         try clear hfz23_1
                         try clear hfz23_2
                         try clear hfz23_3
                         try clear hfz28_0
                         try clear hfz28_1
                         try clear hfz28_2
                         try clear hfz28_3
                         try clear hfz38_0
                         try clear hfz38_1
                         try clear hfz38_2
                         try clear hfz38_3
                         try clear hfz46_0
                         try clear hfz46_1
                         try clear hfz46_2
                         try clear hfz46_3
                         try clear hfz53_0
                         try clear hfz53_1
                         try clear hfz53_2
                         try clear hfz53_3
                         try clear hx585_0
                         try clear hx585_1
                         try clear hx585_2
                         try clear hx585_3
                         try clear hx594_0
                         try clear hx596_0
                         try clear hx597_0
                         try clear p2
                         try clear p5
                         try clear p585
                         try clear p594
                         try clear p596
                         try clear p597
                         try clear p6
                         try clear q5
                         try clear q585
                         try clear q594
                         try clear q596
                         try clear q597
                         obtain ⟨x18_4, rfl, HA, HK4, HO_7, HO_10, BK578, BK586, HB⟩ := hrel
                         cases gk with
                         | zero => exact absurd HA.out (by simp [saronlaw06_KernelPlays.l1])
                         | succ k4 =>
                          have H := HA.out
                          clear HA
                          simp only [saronlaw06_KernelPlays.l1] at H
                          by_cases c54 : x18_4 ≤ ((rd_T66 l0_3 t584).f2)
                          ·rw [if_pos c54] at H
                           have c54b0 : decide (x18_4 ≤ ((rd_T66 l0_3 t584).f2)) = true := decide_eq_true c54
                           clear c54
                           replace H := Option.bind_eq_some_iff.mp H
                           obtain ⟨t598, A550, H⟩ := H
                           replace H : (if t598 = 0 then (some false) else (saronlaw06_KernelPlays.l1 k4 t581 t587 (rd y591 ((rd_T66 l0_3 t584).f0)) x14_2 (wrap64 ((rd t581 x15_34) + x16_34)) (wrap64 (x18_4 + 1)) a0_0 a0_1 a0_2 l0_3 ((rd_T66 l0_3 t584).f0) ((rd_T66 l0_3 t584).f1) ((rd_T66 l0_3 t584).f2) ((rd_T66 l0_3 t584).f3))) = some r := H
                           have A55 := zh A550
                           clear A550
                           by_cases c56 : t598 = 0
                           ·rw [if_pos c56] at H
                            have c56b0 : (t598 == 0) = true := beq_iff_eq.mpr c56
                            have c56b1 : (t598 != 0) = false := bne_eq_false_iff_eq.mpr c56
                            clear c56
                            obtain rfl := Option.some.inj H
                            have hnb57 := NB586_578.out
                            have hnc57 := NB578_586.out
                            have hcz58_0 : wr.cell? ⟨gb586, 0, none⟩ = some (.int .i64 ((rd_T66 l0_3 t584).f0)) := vb BK586 0
                            have hcz58_1 : wr.cell? ⟨gb586, 1, none⟩ = some (.int .i64 ((rd_T66 l0_3 t584).f1)) := vb BK586 1
                            have hcz58_2 : wr.cell? ⟨gb586, 2, none⟩ = some (.int .i64 ((rd_T66 l0_3 t584).f2)) := vb BK586 2
                            have hcz58_3 : wr.cell? ⟨gb586, 3, none⟩ = some (.int .i64 ((rd_T66 l0_3 t584).f3)) := vb BK586 3
                            have hfz58_0 := blk_frozen BK586.out 0
                            have hfz58_1 := blk_frozen BK586.out 1
                            have hfz58_2 := blk_frozen BK586.out 2
                            have hfz58_3 := blk_frozen BK586.out 3
                            have hcz59_0 : wr.cell? ⟨gb578, 0, none⟩ = some (.int .i64 a0_0) := vb BK578 0
                            have hcz59_1 : wr.cell? ⟨gb578, 1, none⟩ = some (.int .i64 a0_1) := vb BK578 1
                            have hcz59_2 : wr.cell? ⟨gb578, 2, none⟩ = some (.int .i64 a0_2) := vb BK578 2
                            have hcz59_3 : wr.cell? ⟨gb578, 3, none⟩ = some (.slice (some ad585) l0_3.length c0_3) := vb BK578 3
                            have hfz59_0 := blk_frozen BK578.out 0
                            have hfz59_1 := blk_frozen BK578.out 1
                            have hfz59_2 := blk_frozen BK578.out 2
                            have hfz59_3 := blk_frozen BK578.out 3
                            go_wp2_with (first | ((with_reducible refine gate_callee (f := 42) rfl ?_); refine goesL_ (some 125) rfl rfl Tryd.func42 zk rfl #[.int .i64 (wrap64 (x18_4 - (wrap64 ((rd t581 x15_34) + x16_34)))), .int .i64 a0_0] rfl zm ?_; (with_reducible refine (saronref00_Turn.calls (wrap64 (x18_4 - (wrap64 ((rd t581 x15_34) + x16_34)))) a0_0 t598 _ A55.out).mono ?_); rintro e w' ⟨rfl, ⟨nd, rfl⟩⟩; refine ⟨_, rfl, ?_⟩))
                            go_ret
                            exact ⟨zf, zb⟩
                           ·rw [if_neg c56] at H
                            have c56b0 : (t598 == 0) = false := beq_eq_false_iff_ne.mpr c56
                            have c56b1 : (t598 != 0) = true := bne_iff_ne.mpr c56
                            have H' := zh H
                            clear H
                            have hnb60 := NB586_578.out
                            have hnc60 := NB578_586.out
                            have hcz61_0 : wr.cell? ⟨gb586, 0, none⟩ = some (.int .i64 ((rd_T66 l0_3 t584).f0)) := vb BK586 0
                            have hcz61_1 : wr.cell? ⟨gb586, 1, none⟩ = some (.int .i64 ((rd_T66 l0_3 t584).f1)) := vb BK586 1
                            have hcz61_2 : wr.cell? ⟨gb586, 2, none⟩ = some (.int .i64 ((rd_T66 l0_3 t584).f2)) := vb BK586 2
                            have hcz61_3 : wr.cell? ⟨gb586, 3, none⟩ = some (.int .i64 ((rd_T66 l0_3 t584).f3)) := vb BK586 3
                            have hfz61_0 := blk_frozen BK586.out 0
                            have hfz61_1 := blk_frozen BK586.out 1
                            have hfz61_2 := blk_frozen BK586.out 2
                            have hfz61_3 := blk_frozen BK586.out 3
                            have hcz62_0 : wr.cell? ⟨gb578, 0, none⟩ = some (.int .i64 a0_0) := vb BK578 0
                            have hcz62_1 : wr.cell? ⟨gb578, 1, none⟩ = some (.int .i64 a0_1) := vb BK578 1
                            have hcz62_2 : wr.cell? ⟨gb578, 2, none⟩ = some (.int .i64 a0_2) := vb BK578 2
                            have hcz62_3 : wr.cell? ⟨gb578, 3, none⟩ = some (.slice (some ad585) l0_3.length c0_3) := vb BK578 3
                            have hfz62_0 := blk_frozen BK578.out 0
                            have hfz62_1 := blk_frozen BK578.out 1
                            have hfz62_2 := blk_frozen BK578.out 2
                            have hfz62_3 := blk_frozen BK578.out 3
                            go_wp2_with (first | ((with_reducible refine gate_callee (f := 42) rfl ?_); refine goesL_ (some 125) rfl rfl Tryd.func42 zk rfl #[.int .i64 (wrap64 (x18_4 - (wrap64 ((rd t581 x15_34) + x16_34)))), .int .i64 a0_0] rfl zm ?_; (with_reducible refine (saronref00_Turn.calls (wrap64 (x18_4 - (wrap64 ((rd t581 x15_34) + x16_34)))) a0_0 t598 _ A55.out).mono ?_); rintro e w' ⟨rfl, ⟨nd, rfl⟩⟩; refine ⟨_, rfl, ?_⟩))
                            go_roundg k4
                            case measure => have := HJ12.out; have := HK2.out; have := HJ34.out; have := HK4.out; omega
                            case rel => exact ⟨(wrap64 (x18_4 + 1)), ze, H', ⟨by have := HJ12.out; have := HK2.out; have := HJ34.out; have := HK4.out; omega⟩, ⟨zR HO_7⟩, ⟨zV HO_10⟩, ⟨zc BK578⟩, ⟨zc BK586⟩, ⟨zb⟩⟩
                          ·rw [if_neg c54] at H
                           have c54b0 : decide (x18_4 ≤ ((rd_T66 l0_3 t584).f2)) = false := decide_eq_false c54
                           clear c54
                           have H' := zh H
                           clear H
                           have hnb63 := NB586_578.out
                           have hnc63 := NB578_586.out
                           have hcz64_0 : wr.cell? ⟨gb586, 0, none⟩ = some (.int .i64 ((rd_T66 l0_3 t584).f0)) := vb BK586 0
                           have hcz64_1 : wr.cell? ⟨gb586, 1, none⟩ = some (.int .i64 ((rd_T66 l0_3 t584).f1)) := vb BK586 1
                           have hcz64_2 : wr.cell? ⟨gb586, 2, none⟩ = some (.int .i64 ((rd_T66 l0_3 t584).f2)) := vb BK586 2
                           have hcz64_3 : wr.cell? ⟨gb586, 3, none⟩ = some (.int .i64 ((rd_T66 l0_3 t584).f3)) := vb BK586 3
                           have hfz64_0 := blk_frozen BK586.out 0
                           have hfz64_1 := blk_frozen BK586.out 1
                           have hfz64_2 := blk_frozen BK586.out 2
                           have hfz64_3 := blk_frozen BK586.out 3
                           go_wp2
                           go_roundg k4
                           case measure => have := HJ12.out; have := HK2.out; have := HJ34.out; have := HK4.out; omega
                           case rel => exact ⟨(wrap64 (x14_2 + 1)), ze, H', ⟨by have := HJ12.out; have := HK2.out; have := HJ34.out; have := HK4.out; omega⟩, ⟨zR HO_7⟩, ⟨zV HO_10⟩, ⟨zc BK578⟩, ⟨zc BK586⟩, ⟨zb⟩⟩
                      ·rw [if_neg c51] at H
                       have c51b0 : ((rd t587 x14_2) == (-1)) = false := beq_eq_false_iff_ne.mpr c51
                       have c51b1 : ((rd t587 x14_2) != (-1)) = true := bne_iff_ne.mpr c51
                       replace H := Option.bind_eq_some_iff.mp H
                       obtain ⟨t600, A650, H⟩ := H
                       replace H : (if t600 = true then ((saronref00_Turn.f (wrap64 ((rd t587 x14_2) - (wrap64 ((rd t581 x15_34) + x16_34)))) a0_0).bind fun t602 => (if t602 = 0 then ((saronref00_Sits.f (wrap64 ((rd t581 x15_34) + x16_34)) ((rd_T66 l0_3 t584).f1) ((rd_T66 l0_3 t584).f2)).bind fun t603 => (if t603 = true then (if (rd t587 x14_2) = (wrap64 ((rd t581 x15_34) + x16_34)) then ((saronref00_Sits.f (wrap64 ((rd t581 x15_34) + x16_34)) ((rd_T66 l0_3 t584).f1) ((rd_T66 l0_3 t584).f2)).bind fun t605 => (if t605 = true then (saronlaw06_KernelPlays.l0 kj34 t581 t587 (rd y591 ((rd_T66 l0_3 t584).f0)) (wrap64 (x14_2 + 1)) a0_0 a0_1 a0_2 l0_3 ((rd_T66 l0_3 t584).f0) ((rd_T66 l0_3 t584).f1) ((rd_T66 l0_3 t584).f2) ((rd_T66 l0_3 t584).f3)) else (if (rd t587 x14_2) ≥ (wrap64 (((rd_T66 l0_3 t584).f1) + a0_0)) then (some false) else (saronlaw06_KernelPlays.l0 kj34 t581 t587 (rd y591 ((rd_T66 l0_3 t584).f0)) (wrap64 (x14_2 + 1)) a0_0 a0_1 a0_2 l0_3 ((rd_T66 l0_3 t584).f0) ((rd_T66 l0_3 t584).f1) ((rd_T66 l0_3 t584).f2) ((rd_T66 l0_3 t584).f3))))) else (some false)) else ((saronref00_Sits.f (wrap64 ((rd t581 x15_34) + x16_34)) ((rd_T66 l0_3 t584).f1) ((rd_T66 l0_3 t584).f2)).bind fun t607 => (if t607 = true then (saronlaw06_KernelPlays.l0 kj34 t581 t587 (rd y591 ((rd_T66 l0_3 t584).f0)) (wrap64 (x14_2 + 1)) a0_0 a0_1 a0_2 l0_3 ((rd_T66 l0_3 t584).f0) ((rd_T66 l0_3 t584).f1) ((rd_T66 l0_3 t584).f2) ((rd_T66 l0_3 t584).f3)) else (if (rd t587 x14_2) ≥ (wrap64 (((rd_T66 l0_3 t584).f1) + a0_0)) then (some false) else (saronlaw06_KernelPlays.l0 kj34 t581 t587 (rd y591 ((rd_T66 l0_3 t584).f0)) (wrap64 (x14_2 + 1)) a0_0 a0_1 a0_2 l0_3 ((rd_T66 l0_3 t584).f0) ((rd_T66 l0_3 t584).f1) ((rd_T66 l0_3 t584).f2) ((rd_T66 l0_3 t584).f3))))))) else (some false))) else (some false)) = some r := H
                       have A65 := zh A650
                       clear A650
                       by_cases c66 : t600 = true
                       ·subst c66
                        have H1 : ((saronref00_Turn.f (wrap64 ((rd t587 x14_2) - (wrap64 ((rd t581 x15_34) + x16_34)))) a0_0).bind fun t602 => (if t602 = 0 then ((saronref00_Sits.f (wrap64 ((rd t581 x15_34) + x16_34)) ((rd_T66 l0_3 t584).f1) ((rd_T66 l0_3 t584).f2)).bind fun t603 => (if t603 = true then (if (rd t587 x14_2) = (wrap64 ((rd t581 x15_34) + x16_34)) then ((saronref00_Sits.f (wrap64 ((rd t581 x15_34) + x16_34)) ((rd_T66 l0_3 t584).f1) ((rd_T66 l0_3 t584).f2)).bind fun t605 => (if t605 = true then (saronlaw06_KernelPlays.l0 kj34 t581 t587 (rd y591 ((rd_T66 l0_3 t584).f0)) (wrap64 (x14_2 + 1)) a0_0 a0_1 a0_2 l0_3 ((rd_T66 l0_3 t584).f0) ((rd_T66 l0_3 t584).f1) ((rd_T66 l0_3 t584).f2) ((rd_T66 l0_3 t584).f3)) else (if (rd t587 x14_2) ≥ (wrap64 (((rd_T66 l0_3 t584).f1) + a0_0)) then (some false) else (saronlaw06_KernelPlays.l0 kj34 t581 t587 (rd y591 ((rd_T66 l0_3 t584).f0)) (wrap64 (x14_2 + 1)) a0_0 a0_1 a0_2 l0_3 ((rd_T66 l0_3 t584).f0) ((rd_T66 l0_3 t584).f1) ((rd_T66 l0_3 t584).f2) ((rd_T66 l0_3 t584).f3))))) else (some false)) else ((saronref00_Sits.f (wrap64 ((rd t581 x15_34) + x16_34)) ((rd_T66 l0_3 t584).f1) ((rd_T66 l0_3 t584).f2)).bind fun t607 => (if t607 = true then (saronlaw06_KernelPlays.l0 kj34 t581 t587 (rd y591 ((rd_T66 l0_3 t584).f0)) (wrap64 (x14_2 + 1)) a0_0 a0_1 a0_2 l0_3 ((rd_T66 l0_3 t584).f0) ((rd_T66 l0_3 t584).f1) ((rd_T66 l0_3 t584).f2) ((rd_T66 l0_3 t584).f3)) else (if (rd t587 x14_2) ≥ (wrap64 (((rd_T66 l0_3 t584).f1) + a0_0)) then (some false) else (saronlaw06_KernelPlays.l0 kj34 t581 t587 (rd y591 ((rd_T66 l0_3 t584).f0)) (wrap64 (x14_2 + 1)) a0_0 a0_1 a0_2 l0_3 ((rd_T66 l0_3 t584).f0) ((rd_T66 l0_3 t584).f1) ((rd_T66 l0_3 t584).f2) ((rd_T66 l0_3 t584).f3))))))) else (some false))) = some r := by rw [if_pos rfl] at H; exact H
                        clear H
                        have H := H1
                        clear H1
                        replace H := Option.bind_eq_some_iff.mp H
                        obtain ⟨t602, A670, H⟩ := H
                        replace H : (if t602 = 0 then ((saronref00_Sits.f (wrap64 ((rd t581 x15_34) + x16_34)) ((rd_T66 l0_3 t584).f1) ((rd_T66 l0_3 t584).f2)).bind fun t603 => (if t603 = true then (if (rd t587 x14_2) = (wrap64 ((rd t581 x15_34) + x16_34)) then ((saronref00_Sits.f (wrap64 ((rd t581 x15_34) + x16_34)) ((rd_T66 l0_3 t584).f1) ((rd_T66 l0_3 t584).f2)).bind fun t605 => (if t605 = true then (saronlaw06_KernelPlays.l0 kj34 t581 t587 (rd y591 ((rd_T66 l0_3 t584).f0)) (wrap64 (x14_2 + 1)) a0_0 a0_1 a0_2 l0_3 ((rd_T66 l0_3 t584).f0) ((rd_T66 l0_3 t584).f1) ((rd_T66 l0_3 t584).f2) ((rd_T66 l0_3 t584).f3)) else (if (rd t587 x14_2) ≥ (wrap64 (((rd_T66 l0_3 t584).f1) + a0_0)) then (some false) else (saronlaw06_KernelPlays.l0 kj34 t581 t587 (rd y591 ((rd_T66 l0_3 t584).f0)) (wrap64 (x14_2 + 1)) a0_0 a0_1 a0_2 l0_3 ((rd_T66 l0_3 t584).f0) ((rd_T66 l0_3 t584).f1) ((rd_T66 l0_3 t584).f2) ((rd_T66 l0_3 t584).f3))))) else (some false)) else ((saronref00_Sits.f (wrap64 ((rd t581 x15_34) + x16_34)) ((rd_T66 l0_3 t584).f1) ((rd_T66 l0_3 t584).f2)).bind fun t607 => (if t607 = true then (saronlaw06_KernelPlays.l0 kj34 t581 t587 (rd y591 ((rd_T66 l0_3 t584).f0)) (wrap64 (x14_2 + 1)) a0_0 a0_1 a0_2 l0_3 ((rd_T66 l0_3 t584).f0) ((rd_T66 l0_3 t584).f1) ((rd_T66 l0_3 t584).f2) ((rd_T66 l0_3 t584).f3)) else (if (rd t587 x14_2) ≥ (wrap64 (((rd_T66 l0_3 t584).f1) + a0_0)) then (some false) else (saronlaw06_KernelPlays.l0 kj34 t581 t587 (rd y591 ((rd_T66 l0_3 t584).f0)) (wrap64 (x14_2 + 1)) a0_0 a0_1 a0_2 l0_3 ((rd_T66 l0_3 t584).f0) ((rd_T66 l0_3 t584).f1) ((rd_T66 l0_3 t584).f2) ((rd_T66 l0_3 t584).f3))))))) else (some false)) = some r := H
                        have A67 := zh A670
                        clear A670
                        by_cases c68 : t602 = 0
                        ·rw [if_pos c68] at H
                         have c68b0 : (t602 == 0) = true := beq_iff_eq.mpr c68
                         have c68b1 : (t602 != 0) = false := bne_eq_false_iff_eq.mpr c68
                         clear c68
                         replace H := Option.bind_eq_some_iff.mp H
                         obtain ⟨t603, A690, H⟩ := H
                         replace H : (if t603 = true then (if (rd t587 x14_2) = (wrap64 ((rd t581 x15_34) + x16_34)) then ((saronref00_Sits.f (wrap64 ((rd t581 x15_34) + x16_34)) ((rd_T66 l0_3 t584).f1) ((rd_T66 l0_3 t584).f2)).bind fun t605 => (if t605 = true then (saronlaw06_KernelPlays.l0 kj34 t581 t587 (rd y591 ((rd_T66 l0_3 t584).f0)) (wrap64 (x14_2 + 1)) a0_0 a0_1 a0_2 l0_3 ((rd_T66 l0_3 t584).f0) ((rd_T66 l0_3 t584).f1) ((rd_T66 l0_3 t584).f2) ((rd_T66 l0_3 t584).f3)) else (if (rd t587 x14_2) ≥ (wrap64 (((rd_T66 l0_3 t584).f1) + a0_0)) then (some false) else (saronlaw06_KernelPlays.l0 kj34 t581 t587 (rd y591 ((rd_T66 l0_3 t584).f0)) (wrap64 (x14_2 + 1)) a0_0 a0_1 a0_2 l0_3 ((rd_T66 l0_3 t584).f0) ((rd_T66 l0_3 t584).f1) ((rd_T66 l0_3 t584).f2) ((rd_T66 l0_3 t584).f3))))) else (some false)) else ((saronref00_Sits.f (wrap64 ((rd t581 x15_34) + x16_34)) ((rd_T66 l0_3 t584).f1) ((rd_T66 l0_3 t584).f2)).bind fun t607 => (if t607 = true then (saronlaw06_KernelPlays.l0 kj34 t581 t587 (rd y591 ((rd_T66 l0_3 t584).f0)) (wrap64 (x14_2 + 1)) a0_0 a0_1 a0_2 l0_3 ((rd_T66 l0_3 t584).f0) ((rd_T66 l0_3 t584).f1) ((rd_T66 l0_3 t584).f2) ((rd_T66 l0_3 t584).f3)) else (if (rd t587 x14_2) ≥ (wrap64 (((rd_T66 l0_3 t584).f1) + a0_0)) then (some false) else (saronlaw06_KernelPlays.l0 kj34 t581 t587 (rd y591 ((rd_T66 l0_3 t584).f0)) (wrap64 (x14_2 + 1)) a0_0 a0_1 a0_2 l0_3 ((rd_T66 l0_3 t584).f0) ((rd_T66 l0_3 t584).f1) ((rd_T66 l0_3 t584).f2) ((rd_T66 l0_3 t584).f3)))))) = some r := H
                         have A69 := zh A690
                         clear A690
                         by_cases c70 : t603 = true
                         ·subst c70
                          have H1 : (if (rd t587 x14_2) = (wrap64 ((rd t581 x15_34) + x16_34)) then ((saronref00_Sits.f (wrap64 ((rd t581 x15_34) + x16_34)) ((rd_T66 l0_3 t584).f1) ((rd_T66 l0_3 t584).f2)).bind fun t605 => (if t605 = true then (saronlaw06_KernelPlays.l0 kj34 t581 t587 (rd y591 ((rd_T66 l0_3 t584).f0)) (wrap64 (x14_2 + 1)) a0_0 a0_1 a0_2 l0_3 ((rd_T66 l0_3 t584).f0) ((rd_T66 l0_3 t584).f1) ((rd_T66 l0_3 t584).f2) ((rd_T66 l0_3 t584).f3)) else (if (rd t587 x14_2) ≥ (wrap64 (((rd_T66 l0_3 t584).f1) + a0_0)) then (some false) else (saronlaw06_KernelPlays.l0 kj34 t581 t587 (rd y591 ((rd_T66 l0_3 t584).f0)) (wrap64 (x14_2 + 1)) a0_0 a0_1 a0_2 l0_3 ((rd_T66 l0_3 t584).f0) ((rd_T66 l0_3 t584).f1) ((rd_T66 l0_3 t584).f2) ((rd_T66 l0_3 t584).f3))))) else (some false)) = some r := by rw [if_pos rfl] at H; exact H
                          clear H
                          have H := H1
                          clear H1
                          by_cases c71 : (rd t587 x14_2) = (wrap64 ((rd t581 x15_34) + x16_34))
                          ·rw [if_pos c71] at H
                           have c71b0 : ((rd t587 x14_2) == (wrap64 ((rd t581 x15_34) + x16_34))) = true := beq_iff_eq.mpr c71
                           have c71b1 : ((rd t587 x14_2) != (wrap64 ((rd t581 x15_34) + x16_34))) = false := bne_eq_false_iff_eq.mpr c71
                           clear c71
                           replace H := Option.bind_eq_some_iff.mp H
                           obtain ⟨t605, A720, H⟩ := H
                           replace H : (if t605 = true then (saronlaw06_KernelPlays.l0 kj34 t581 t587 (rd y591 ((rd_T66 l0_3 t584).f0)) (wrap64 (x14_2 + 1)) a0_0 a0_1 a0_2 l0_3 ((rd_T66 l0_3 t584).f0) ((rd_T66 l0_3 t584).f1) ((rd_T66 l0_3 t584).f2) ((rd_T66 l0_3 t584).f3)) else (if (rd t587 x14_2) ≥ (wrap64 (((rd_T66 l0_3 t584).f1) + a0_0)) then (some false) else (saronlaw06_KernelPlays.l0 kj34 t581 t587 (rd y591 ((rd_T66 l0_3 t584).f0)) (wrap64 (x14_2 + 1)) a0_0 a0_1 a0_2 l0_3 ((rd_T66 l0_3 t584).f0) ((rd_T66 l0_3 t584).f1) ((rd_T66 l0_3 t584).f2) ((rd_T66 l0_3 t584).f3)))) = some r := H
                           have A72 := zh A720
                           clear A720
                           by_cases c73 : t605 = true
                           ·subst c73
                            have H1 : (saronlaw06_KernelPlays.l0 kj34 t581 t587 (rd y591 ((rd_T66 l0_3 t584).f0)) (wrap64 (x14_2 + 1)) a0_0 a0_1 a0_2 l0_3 ((rd_T66 l0_3 t584).f0) ((rd_T66 l0_3 t584).f1) ((rd_T66 l0_3 t584).f2) ((rd_T66 l0_3 t584).f3)) = some r := by rw [if_pos rfl] at H; exact H
                            clear H
                            have H := H1
                            clear H1
                            have H' := zh H
                            clear H
                            have p596 : 0 ≤ (x15_34 : Int) := of_decide_eq_true zs
                            have q596 : x15_34 < (t581.length : Int) := of_decide_eq_true zs
                            obtain ⟨ad596, e596, hx596_0⟩ := Kd.at_int (Kd.R_reads' HO_7.out).2.2 x15_34 p596 q596
                            cases e596
                            replace p596 := eq_true p596
                            replace q596 := eq_true q596
                            have p597 : 0 ≤ (x14_2 : Int) := of_decide_eq_true zs
                            have q597 : x14_2 < (t587.length : Int) := of_decide_eq_true zs
                            obtain ⟨ad597, e597, hx597_0⟩ := Kd.at_int (Kd.V_reads' HO_10.out).2.2 x14_2 p597 q597
                            cases e597
                            replace p597 := eq_true p597
                            replace q597 := eq_true q597
                            try go_wp2
                            replace HO_7 := zh (Kd.R_drew HO_7.out)
                            replace HO_10 := zh (Kd.V_drew HO_10.out)
                            replace BK578 := zh (blk_drew BK578.out)
                            replace BK586 := zh (blk_drew BK586.out)
                            replace HB := zh (below_drew1 HB.out)
                            have p599 : 0 ≤ (x14_2 : Int) := of_decide_eq_true zs
                            have q599 : x14_2 < (t587.length : Int) := of_decide_eq_true zs
                            obtain ⟨ad599, e599, hx599_0⟩ := Kd.at_int (Kd.V_reads' HO_10.out).2.2 x14_2 p599 q599
                            obtain rfl : ad597 = ad599 := (by injection e599)
                            replace p599 := eq_true p599
                            replace q599 := eq_true q599
                            have p601 : 0 ≤ (x14_2 : Int) := of_decide_eq_true zs
                            have q601 : x14_2 < (t587.length : Int) := of_decide_eq_true zs
                            obtain ⟨ad601, e601, hx601_0⟩ := Kd.at_int (Kd.V_reads' HO_10.out).2.2 x14_2 p601 q601
                            obtain rfl : ad597 = ad601 := (by injection e601)
                            replace p601 := eq_true p601
                            replace q601 := eq_true q601
                            have p604 : 0 ≤ (x14_2 : Int) := of_decide_eq_true zs
                            have q604 : x14_2 < (t587.length : Int) := of_decide_eq_true zs
                            obtain ⟨ad604, e604, hx604_0⟩ := Kd.at_int (Kd.V_reads' HO_10.out).2.2 x14_2 p604 q604
                            obtain rfl : ad597 = ad604 := (by injection e604)
                            replace p604 := eq_true p604
                            replace q604 := eq_true q604
                            refine start_ (n := 59) (S := fun w' => w'.cell? ⟨gb586, 0, none⟩ = some (.int .i64 ((rd_T66 l0_3 t584).f0)) ∧ w'.cell? ⟨gb586, 1, none⟩ = some (.int .i64 ((rd_T66 l0_3 t584).f1)) ∧ w'.cell? ⟨gb586, 2, none⟩ = some (.int .i64 ((rd_T66 l0_3 t584).f2)) ∧ w'.cell? ⟨gb586, 3, none⟩ = some (.int .i64 ((rd_T66 l0_3 t584).f3)) ∧ w'.cell? ⟨gb578, 0, none⟩ = some (.int .i64 a0_0) ∧ w'.cell? ⟨gb578, 1, none⟩ = some (.int .i64 a0_1) ∧ w'.cell? ⟨gb578, 2, none⟩ = some (.int .i64 a0_2) ∧ w'.cell? ⟨gb578, 3, none⟩ = some (.slice (some ad585) l0_3.length c0_3) ∧ w'.cell? (ad597.add (x14_2).toNat) = some (.int .i64 (rd t587 x14_2)) ∧ w'.cell? (ad597.add (x14_2).toNat) = some (.int .i64 (rd t587 x14_2)) ∧ w'.cell? (ad597.add (x14_2).toNat) = some (.int .i64 (rd t587 x14_2))) (ds := []) (Array.replicate 59 false) zk rfl rfl ⟨vb BK586 0, vb BK586 1, vb BK586 2, vb BK586 3, vb BK578 0, vb BK578 1, vb BK578 2, vb BK578 3, hx599_0, hx601_0, hx604_0⟩ (fun hHeld => ?_); refine with_tabW saronlaw06_KernelPlays.tab32 saronlaw06_KernelPlays.bits32 (fun HT_ HW_ => ?_)
                            generalize wc.drew = w74 at HO_7 HO_10 BK578 BK586 HB hx599_0 hx601_0 hx604_0 hHeld ⊢
                            refine zu 0 ?_
                            refine zu 1 ?_
                            refine zu 2 ?_
                            refine zu 4 ?_
                            refine zu 6 ?_
                            refine zt 3 ?_
                            refine zt 5 ?_
                            refine zt 7 ?_
                            refine zo 8 (fun K hK => ?_)
                            refine goes_ Tryd.func45 zk rfl #[.int .i64 (rd t587 x14_2), .int .i64 ((rd_T66 l0_3 t584).f1), .int .i64 ((rd_T66 l0_3 t584).f2)] (by rfl) rfl rfl zm ?_
                            with_reducible refine (saronref00_Sits.calls (rd t587 x14_2) ((rd_T66 l0_3 t584).f1) ((rd_T66 l0_3 t584).f2) true _ A65.out).mono ?_
                            rintro e w' ⟨rfl, ⟨nd, rfl⟩⟩
                            refine ⟨_, rfl, ?_⟩
                            refine hK.out _ _ ⟨vb BK586 0, vb BK586 1, vb BK586 2, vb BK586 3, vb BK578 0, vb BK578 1, vb BK578 2, vb BK578 3, hHeld.2.2.2.2.2.2.2.2.1, hHeld.2.2.2.2.2.2.2.2.2.1, hHeld.2.2.2.2.2.2.2.2.2.2⟩ (fun hHeld => ?_)
                            clear hK K
                            refine zr 135 _ ?_
                            refine zu 9 ?_
                            refine zu 10 ?_
                            refine zu 11 ?_
                            refine zu 12 ?_
                            refine zu 13 ?_
                            refine zu 15 ?_
                            refine zu 17 ?_
                            refine zt 14 ?_
                            refine zu 16 ?_
                            refine zt 18 ?_
                            refine zo 19 (fun K hK => ?_)
                            refine goes_ Tryd.func42 zk rfl #[.int .i64 (wrap64 ((rd t587 x14_2) - (wrap64 ((rd t581 x15_34) + x16_34)))), .int .i64 a0_0] (by rfl) rfl rfl zm ?_
                            with_reducible refine (saronref00_Turn.calls (wrap64 ((rd t587 x14_2) - (wrap64 ((rd t581 x15_34) + x16_34)))) a0_0 t602 _ A67.out).mono ?_
                            rintro e w' ⟨rfl, ⟨nd, rfl⟩⟩
                            refine ⟨_, rfl, ?_⟩
                            refine hK.out _ _ ⟨vb BK586 0, vb BK586 1, vb BK586 2, vb BK586 3, vb BK578 0, vb BK578 1, vb BK578 2, vb BK578 3, hHeld.2.2.2.2.2.2.2.2.1, hHeld.2.2.2.2.2.2.2.2.2.1, hHeld.2.2.2.2.2.2.2.2.2.2⟩ (fun hHeld => ?_)
                            clear hK K
                            refine zr 146 _ ?_
                            refine zu 20 ?_
                            refine zu 21 ?_
                            refine zu 22 ?_
                            refine zu 23 ?_
                            refine zu 24 ?_
                            refine zu 26 ?_
                            refine zt 25 ?_
                            refine zt 27 ?_
                            refine zo 28 (fun K hK => ?_)
                            refine goes_ Tryd.func45 zk rfl #[.int .i64 (wrap64 ((rd t581 x15_34) + x16_34)), .int .i64 ((rd_T66 l0_3 t584).f1), .int .i64 ((rd_T66 l0_3 t584).f2)] (by rfl) rfl rfl zm ?_
                            with_reducible refine (saronref00_Sits.calls (wrap64 ((rd t581 x15_34) + x16_34)) ((rd_T66 l0_3 t584).f1) ((rd_T66 l0_3 t584).f2) true _ A69.out).mono ?_
                            rintro e w' ⟨rfl, ⟨nd, rfl⟩⟩
                            refine ⟨_, rfl, ?_⟩
                            refine hK.out _ _ ⟨vb BK586 0, vb BK586 1, vb BK586 2, vb BK586 3, vb BK578 0, vb BK578 1, vb BK578 2, vb BK578 3, hHeld.2.2.2.2.2.2.2.2.1, hHeld.2.2.2.2.2.2.2.2.2.1, hHeld.2.2.2.2.2.2.2.2.2.2⟩ (fun hHeld => ?_)
                            clear hK K
                            refine zr 155 _ ?_
                            refine zu 29 ?_
                            refine zu 30 ?_
                            refine zu 31 ?_
                            refine zu 32 ?_
                            refine zu 34 ?_
                            refine zt 33 ?_
                            refine zu 35 ?_
                            refine zu 36 ?_
                            refine zu 37 ?_
                            refine zu 38 ?_
                            refine zu 39 ?_
                            refine zu 40 ?_
                            refine zu 42 ?_
                            refine zt 41 ?_
                            refine zt 43 ?_
                            refine zo 44 (fun K hK => ?_)
                            refine goes_ Tryd.func45 zk rfl #[.int .i64 (wrap64 ((rd t581 x15_34) + x16_34)), .int .i64 ((rd_T66 l0_3 t584).f1), .int .i64 ((rd_T66 l0_3 t584).f2)] (by rfl) rfl rfl zm ?_
                            with_reducible refine (saronref00_Sits.calls (wrap64 ((rd t581 x15_34) + x16_34)) ((rd_T66 l0_3 t584).f1) ((rd_T66 l0_3 t584).f2) true _ A72.out).mono ?_
                            rintro e w' ⟨rfl, ⟨nd, rfl⟩⟩
                            refine ⟨_, rfl, ?_⟩
                            refine hK.out _ _ ⟨vb BK586 0, vb BK586 1, vb BK586 2, vb BK586 3, vb BK578 0, vb BK578 1, vb BK578 2, vb BK578 3, hHeld.2.2.2.2.2.2.2.2.1, hHeld.2.2.2.2.2.2.2.2.2.1, hHeld.2.2.2.2.2.2.2.2.2.2⟩ (fun hHeld => ?_)
                            clear hK K
                            refine zr 171 _ ?_
                            refine zu 45 ?_
                            refine zu 46 ?_
                            refine zn 47 ?_
                            refine zn 48 ?_
                            refine zn 49 ?_
                            refine zn 50 ?_
                            refine zn 51 ?_
                            refine zn 52 ?_
                            refine zn 53 ?_
                            refine zn 54 ?_
                            refine zn 55 ?_
                            refine zn 56 ?_
                            refine zu 57 ?_
                            refine zu 58 ?_
                            refine zd ?_
                            try go_wp2
                            go_roundg kj34
                            case measure => have := HJ12.out; have := HK2.out; have := HJ34.out; omega
                            case rel => exact ⟨(wrap64 (x14_2 + 1)), ze, H', ⟨by have := HJ12.out; have := HK2.out; have := HJ34.out; omega⟩, ⟨zR HO_7⟩, ⟨zV HO_10⟩, ⟨zc BK578⟩, ⟨zc BK586⟩, ⟨zb⟩⟩
                           ·replace c73 := Bool.eq_false_iff.mpr c73
                            subst c73
                            have H1 : (if (rd t587 x14_2) ≥ (wrap64 (((rd_T66 l0_3 t584).f1) + a0_0)) then (some false) else (saronlaw06_KernelPlays.l0 kj34 t581 t587 (rd y591 ((rd_T66 l0_3 t584).f0)) (wrap64 (x14_2 + 1)) a0_0 a0_1 a0_2 l0_3 ((rd_T66 l0_3 t584).f0) ((rd_T66 l0_3 t584).f1) ((rd_T66 l0_3 t584).f2) ((rd_T66 l0_3 t584).f3))) = some r := by rw [if_neg (show ¬ (false = true) by decide)] at H; exact H
                            clear H
                            have H := H1
                            clear H1
                            by_cases c75 : (rd t587 x14_2) ≥ (wrap64 (((rd_T66 l0_3 t584).f1) + a0_0))
                            ·rw [if_pos c75] at H
                             have c75b0 : decide ((wrap64 (((rd_T66 l0_3 t584).f1) + a0_0)) ≤ (rd t587 x14_2)) = true := decide_eq_true c75
                             clear c75
                             obtain rfl := Option.some.inj H
                             have p596 : 0 ≤ (x15_34 : Int) := of_decide_eq_true zs
                             have q596 : x15_34 < (t581.length : Int) := of_decide_eq_true zs
                             obtain ⟨ad596, e596, hx596_0⟩ := Kd.at_int (Kd.R_reads' HO_7.out).2.2 x15_34 p596 q596
                             cases e596
                             replace p596 := eq_true p596
                             replace q596 := eq_true q596
                             have p597 : 0 ≤ (x14_2 : Int) := of_decide_eq_true zs
                             have q597 : x14_2 < (t587.length : Int) := of_decide_eq_true zs
                             obtain ⟨ad597, e597, hx597_0⟩ := Kd.at_int (Kd.V_reads' HO_10.out).2.2 x14_2 p597 q597
                             cases e597
                             replace p597 := eq_true p597
                             replace q597 := eq_true q597
                             try go_wp2
                             replace HO_7 := zh (Kd.R_drew HO_7.out)
                             replace HO_10 := zh (Kd.V_drew HO_10.out)
                             replace BK578 := zh (blk_drew BK578.out)
                             replace BK586 := zh (blk_drew BK586.out)
                             replace HB := zh (below_drew1 HB.out)
                             have p599 : 0 ≤ (x14_2 : Int) := of_decide_eq_true zs
                             have q599 : x14_2 < (t587.length : Int) := of_decide_eq_true zs
                             obtain ⟨ad599, e599, hx599_0⟩ := Kd.at_int (Kd.V_reads' HO_10.out).2.2 x14_2 p599 q599
                             obtain rfl : ad597 = ad599 := (by injection e599)
                             replace p599 := eq_true p599
                             replace q599 := eq_true q599
                             have p601 : 0 ≤ (x14_2 : Int) := of_decide_eq_true zs
                             have q601 : x14_2 < (t587.length : Int) := of_decide_eq_true zs
                             obtain ⟨ad601, e601, hx601_0⟩ := Kd.at_int (Kd.V_reads' HO_10.out).2.2 x14_2 p601 q601
                             obtain rfl : ad597 = ad601 := (by injection e601)
                             replace p601 := eq_true p601
                             replace q601 := eq_true q601
                             have p604 : 0 ≤ (x14_2 : Int) := of_decide_eq_true zs
                             have q604 : x14_2 < (t587.length : Int) := of_decide_eq_true zs
                             obtain ⟨ad604, e604, hx604_0⟩ := Kd.at_int (Kd.V_reads' HO_10.out).2.2 x14_2 p604 q604
                             obtain rfl : ad597 = ad604 := (by injection e604)
                             replace p604 := eq_true p604
                             replace q604 := eq_true q604
                             have p606 : 0 ≤ (x14_2 : Int) := of_decide_eq_true zs
                             have q606 : x14_2 < (t587.length : Int) := of_decide_eq_true zs
                             obtain ⟨ad606, e606, hx606_0⟩ := Kd.at_int (Kd.V_reads' HO_10.out).2.2 x14_2 p606 q606
                             obtain rfl : ad597 = ad606 := (by injection e606)
                             replace p606 := eq_true p606
                             replace q606 := eq_true q606
                             refine start_ (n := 59) (S := fun w' => w'.cell? ⟨gb586, 0, none⟩ = some (.int .i64 ((rd_T66 l0_3 t584).f0)) ∧ w'.cell? ⟨gb586, 1, none⟩ = some (.int .i64 ((rd_T66 l0_3 t584).f1)) ∧ w'.cell? ⟨gb586, 2, none⟩ = some (.int .i64 ((rd_T66 l0_3 t584).f2)) ∧ w'.cell? ⟨gb586, 3, none⟩ = some (.int .i64 ((rd_T66 l0_3 t584).f3)) ∧ w'.cell? ⟨gb578, 0, none⟩ = some (.int .i64 a0_0) ∧ w'.cell? ⟨gb578, 1, none⟩ = some (.int .i64 a0_1) ∧ w'.cell? ⟨gb578, 2, none⟩ = some (.int .i64 a0_2) ∧ w'.cell? ⟨gb578, 3, none⟩ = some (.slice (some ad585) l0_3.length c0_3) ∧ w'.cell? (ad597.add (x14_2).toNat) = some (.int .i64 (rd t587 x14_2)) ∧ w'.cell? (ad597.add (x14_2).toNat) = some (.int .i64 (rd t587 x14_2)) ∧ w'.cell? (ad597.add (x14_2).toNat) = some (.int .i64 (rd t587 x14_2)) ∧ w'.cell? (ad597.add (x14_2).toNat) = some (.int .i64 (rd t587 x14_2))) (ds := []) (Array.replicate 59 false) zk rfl rfl ⟨vb BK586 0, vb BK586 1, vb BK586 2, vb BK586 3, vb BK578 0, vb BK578 1, vb BK578 2, vb BK578 3, hx599_0, hx601_0, hx604_0, hx606_0⟩ (fun hHeld => ?_); refine with_tabW saronlaw06_KernelPlays.tab32 saronlaw06_KernelPlays.bits32 (fun HT_ HW_ => ?_)
                             generalize wc.drew = w76 at HO_7 HO_10 BK578 BK586 HB hx599_0 hx601_0 hx604_0 hx606_0 hHeld ⊢
                             refine zu 0 ?_
                             refine zu 1 ?_
                             refine zu 2 ?_
                             refine zu 4 ?_
                             refine zu 6 ?_
                             refine zt 3 ?_
                             refine zt 5 ?_
                             refine zt 7 ?_
                             refine zo 8 (fun K hK => ?_)
                             refine goes_ Tryd.func45 zk rfl #[.int .i64 (rd t587 x14_2), .int .i64 ((rd_T66 l0_3 t584).f1), .int .i64 ((rd_T66 l0_3 t584).f2)] (by rfl) rfl rfl zm ?_
                             with_reducible refine (saronref00_Sits.calls (rd t587 x14_2) ((rd_T66 l0_3 t584).f1) ((rd_T66 l0_3 t584).f2) true _ A65.out).mono ?_
                             rintro e w' ⟨rfl, ⟨nd, rfl⟩⟩
                             refine ⟨_, rfl, ?_⟩
                             refine hK.out _ _ ⟨vb BK586 0, vb BK586 1, vb BK586 2, vb BK586 3, vb BK578 0, vb BK578 1, vb BK578 2, vb BK578 3, hHeld.2.2.2.2.2.2.2.2.1, hHeld.2.2.2.2.2.2.2.2.2.1, hHeld.2.2.2.2.2.2.2.2.2.2.1, hHeld.2.2.2.2.2.2.2.2.2.2.2⟩ (fun hHeld => ?_)
                             clear hK K
                             refine zr 135 _ ?_
                             refine zu 9 ?_
                             refine zu 10 ?_
                             refine zu 11 ?_
                             refine zu 12 ?_
                             refine zu 13 ?_
                             refine zu 15 ?_
                             refine zu 17 ?_
                             refine zt 14 ?_
                             refine zu 16 ?_
                             refine zt 18 ?_
                             refine zo 19 (fun K hK => ?_)
                             refine goes_ Tryd.func42 zk rfl #[.int .i64 (wrap64 ((rd t587 x14_2) - (wrap64 ((rd t581 x15_34) + x16_34)))), .int .i64 a0_0] (by rfl) rfl rfl zm ?_
                             with_reducible refine (saronref00_Turn.calls (wrap64 ((rd t587 x14_2) - (wrap64 ((rd t581 x15_34) + x16_34)))) a0_0 t602 _ A67.out).mono ?_
                             rintro e w' ⟨rfl, ⟨nd, rfl⟩⟩
                             refine ⟨_, rfl, ?_⟩
                             refine hK.out _ _ ⟨vb BK586 0, vb BK586 1, vb BK586 2, vb BK586 3, vb BK578 0, vb BK578 1, vb BK578 2, vb BK578 3, hHeld.2.2.2.2.2.2.2.2.1, hHeld.2.2.2.2.2.2.2.2.2.1, hHeld.2.2.2.2.2.2.2.2.2.2.1, hHeld.2.2.2.2.2.2.2.2.2.2.2⟩ (fun hHeld => ?_)
                             clear hK K
                             refine zr 146 _ ?_
                             refine zu 20 ?_
                             refine zu 21 ?_
                             refine zu 22 ?_
                             refine zu 23 ?_
                             refine zu 24 ?_
                             refine zu 26 ?_
                             refine zt 25 ?_
                             refine zt 27 ?_
                             refine zo 28 (fun K hK => ?_)
                             refine goes_ Tryd.func45 zk rfl #[.int .i64 (wrap64 ((rd t581 x15_34) + x16_34)), .int .i64 ((rd_T66 l0_3 t584).f1), .int .i64 ((rd_T66 l0_3 t584).f2)] (by rfl) rfl rfl zm ?_
                             with_reducible refine (saronref00_Sits.calls (wrap64 ((rd t581 x15_34) + x16_34)) ((rd_T66 l0_3 t584).f1) ((rd_T66 l0_3 t584).f2) true _ A69.out).mono ?_
                             rintro e w' ⟨rfl, ⟨nd, rfl⟩⟩
                             refine ⟨_, rfl, ?_⟩
                             refine hK.out _ _ ⟨vb BK586 0, vb BK586 1, vb BK586 2, vb BK586 3, vb BK578 0, vb BK578 1, vb BK578 2, vb BK578 3, hHeld.2.2.2.2.2.2.2.2.1, hHeld.2.2.2.2.2.2.2.2.2.1, hHeld.2.2.2.2.2.2.2.2.2.2.1, hHeld.2.2.2.2.2.2.2.2.2.2.2⟩ (fun hHeld => ?_)
                             clear hK K
                             refine zr 155 _ ?_
                             refine zu 29 ?_
                             refine zu 30 ?_
                             refine zu 31 ?_
                             refine zu 32 ?_
                             refine zu 34 ?_
                             refine zt 33 ?_
                             refine zu 35 ?_
                             refine zu 36 ?_
                             refine zu 37 ?_
                             refine zu 38 ?_
                             refine zu 39 ?_
                             refine zu 40 ?_
                             refine zu 42 ?_
                             refine zt 41 ?_
                             refine zt 43 ?_
                             refine zo 44 (fun K hK => ?_)
                             refine goes_ Tryd.func45 zk rfl #[.int .i64 (wrap64 ((rd t581 x15_34) + x16_34)), .int .i64 ((rd_T66 l0_3 t584).f1), .int .i64 ((rd_T66 l0_3 t584).f2)] (by rfl) rfl rfl zm ?_
                             with_reducible refine (saronref00_Sits.calls (wrap64 ((rd t581 x15_34) + x16_34)) ((rd_T66 l0_3 t584).f1) ((rd_T66 l0_3 t584).f2) false _ A72.out).mono ?_
                             rintro e w' ⟨rfl, ⟨nd, rfl⟩⟩
                             refine ⟨_, rfl, ?_⟩
                             refine hK.out _ _ ⟨vb BK586 0, vb BK586 1, vb BK586 2, vb BK586 3, vb BK578 0, vb BK578 1, vb BK578 2, vb BK578 3, hHeld.2.2.2.2.2.2.2.2.1, hHeld.2.2.2.2.2.2.2.2.2.1, hHeld.2.2.2.2.2.2.2.2.2.2.1, hHeld.2.2.2.2.2.2.2.2.2.2.2⟩ (fun hHeld => ?_)
                             clear hK K
                             refine zr 171 _ ?_
                             refine zu 45 ?_
                             refine zu 46 ?_
                             refine zu 47 ?_
                             refine zu 48 ?_
                             refine zu 49 ?_
                             refine zu 51 ?_
                             refine zu 53 ?_
                             refine zt 50 ?_
                             refine zt 52 ?_
                             refine zt 54 ?_
                             refine zu 55 ?_
                             refine zu 56 ?_
                             refine zu 57 ?_
                             refine zu 58 ?_
                             refine zd ?_
                             try go_wp2
                             go_ret
                             exact ⟨zf, zb⟩
                            ·rw [if_neg c75] at H
                             have c75b0 : decide ((wrap64 (((rd_T66 l0_3 t584).f1) + a0_0)) ≤ (rd t587 x14_2)) = false := decide_eq_false c75
                             clear c75
                             have H' := zh H
                             clear H
                             have p596 : 0 ≤ (x15_34 : Int) := of_decide_eq_true zs
                             have q596 : x15_34 < (t581.length : Int) := of_decide_eq_true zs
                             obtain ⟨ad596, e596, hx596_0⟩ := Kd.at_int (Kd.R_reads' HO_7.out).2.2 x15_34 p596 q596
                             cases e596
                             replace p596 := eq_true p596
                             replace q596 := eq_true q596
                             have p597 : 0 ≤ (x14_2 : Int) := of_decide_eq_true zs
                             have q597 : x14_2 < (t587.length : Int) := of_decide_eq_true zs
                             obtain ⟨ad597, e597, hx597_0⟩ := Kd.at_int (Kd.V_reads' HO_10.out).2.2 x14_2 p597 q597
                             cases e597
                             replace p597 := eq_true p597
                             replace q597 := eq_true q597
                             try go_wp2
                             replace HO_7 := zh (Kd.R_drew HO_7.out)
                             replace HO_10 := zh (Kd.V_drew HO_10.out)
                             replace BK578 := zh (blk_drew BK578.out)
                             replace BK586 := zh (blk_drew BK586.out)
                             replace HB := zh (below_drew1 HB.out)
                             have p599 : 0 ≤ (x14_2 : Int) := of_decide_eq_true zs
                             have q599 : x14_2 < (t587.length : Int) := of_decide_eq_true zs
                             obtain ⟨ad599, e599, hx599_0⟩ := Kd.at_int (Kd.V_reads' HO_10.out).2.2 x14_2 p599 q599
                             obtain rfl : ad597 = ad599 := (by injection e599)
                             replace p599 := eq_true p599
                             replace q599 := eq_true q599
                             have p601 : 0 ≤ (x14_2 : Int) := of_decide_eq_true zs
                             have q601 : x14_2 < (t587.length : Int) := of_decide_eq_true zs
                             obtain ⟨ad601, e601, hx601_0⟩ := Kd.at_int (Kd.V_reads' HO_10.out).2.2 x14_2 p601 q601
                             obtain rfl : ad597 = ad601 := (by injection e601)
                             replace p601 := eq_true p601
                             replace q601 := eq_true q601
                             have p604 : 0 ≤ (x14_2 : Int) := of_decide_eq_true zs
                             have q604 : x14_2 < (t587.length : Int) := of_decide_eq_true zs
                             obtain ⟨ad604, e604, hx604_0⟩ := Kd.at_int (Kd.V_reads' HO_10.out).2.2 x14_2 p604 q604
                             obtain rfl : ad597 = ad604 := (by injection e604)
                             replace p604 := eq_true p604
                             replace q604 := eq_true q604
                             have p606 : 0 ≤ (x14_2 : Int) := of_decide_eq_true zs
                             have q606 : x14_2 < (t587.length : Int) := of_decide_eq_true zs
                             obtain ⟨ad606, e606, hx606_0⟩ := Kd.at_int (Kd.V_reads' HO_10.out).2.2 x14_2 p606 q606
                             obtain rfl : ad597 = ad606 := (by injection e606)
                             replace p606 := eq_true p606
                             replace q606 := eq_true q606
                             refine start_ (n := 59) (S := fun w' => w'.cell? ⟨gb586, 0, none⟩ = some (.int .i64 ((rd_T66 l0_3 t584).f0)) ∧ w'.cell? ⟨gb586, 1, none⟩ = some (.int .i64 ((rd_T66 l0_3 t584).f1)) ∧ w'.cell? ⟨gb586, 2, none⟩ = some (.int .i64 ((rd_T66 l0_3 t584).f2)) ∧ w'.cell? ⟨gb586, 3, none⟩ = some (.int .i64 ((rd_T66 l0_3 t584).f3)) ∧ w'.cell? ⟨gb578, 0, none⟩ = some (.int .i64 a0_0) ∧ w'.cell? ⟨gb578, 1, none⟩ = some (.int .i64 a0_1) ∧ w'.cell? ⟨gb578, 2, none⟩ = some (.int .i64 a0_2) ∧ w'.cell? ⟨gb578, 3, none⟩ = some (.slice (some ad585) l0_3.length c0_3) ∧ w'.cell? (ad597.add (x14_2).toNat) = some (.int .i64 (rd t587 x14_2)) ∧ w'.cell? (ad597.add (x14_2).toNat) = some (.int .i64 (rd t587 x14_2)) ∧ w'.cell? (ad597.add (x14_2).toNat) = some (.int .i64 (rd t587 x14_2)) ∧ w'.cell? (ad597.add (x14_2).toNat) = some (.int .i64 (rd t587 x14_2))) (ds := []) (Array.replicate 59 false) zk rfl rfl ⟨vb BK586 0, vb BK586 1, vb BK586 2, vb BK586 3, vb BK578 0, vb BK578 1, vb BK578 2, vb BK578 3, hx599_0, hx601_0, hx604_0, hx606_0⟩ (fun hHeld => ?_); refine with_tabW saronlaw06_KernelPlays.tab32 saronlaw06_KernelPlays.bits32 (fun HT_ HW_ => ?_)
                             generalize wc.drew = w77 at HO_7 HO_10 BK578 BK586 HB hx599_0 hx601_0 hx604_0 hx606_0 hHeld ⊢
                             refine zu 0 ?_
                             refine zu 1 ?_
                             refine zu 2 ?_
                             refine zu 4 ?_
                             refine zu 6 ?_
                             refine zt 3 ?_
                             refine zt 5 ?_
                             refine zt 7 ?_
                             refine zo 8 (fun K hK => ?_)
                             refine goes_ Tryd.func45 zk rfl #[.int .i64 (rd t587 x14_2), .int .i64 ((rd_T66 l0_3 t584).f1), .int .i64 ((rd_T66 l0_3 t584).f2)] (by rfl) rfl rfl zm ?_
                             with_reducible refine (saronref00_Sits.calls (rd t587 x14_2) ((rd_T66 l0_3 t584).f1) ((rd_T66 l0_3 t584).f2) true _ A65.out).mono ?_
                             rintro e w' ⟨rfl, ⟨nd, rfl⟩⟩
                             refine ⟨_, rfl, ?_⟩
                             refine hK.out _ _ ⟨vb BK586 0, vb BK586 1, vb BK586 2, vb BK586 3, vb BK578 0, vb BK578 1, vb BK578 2, vb BK578 3, hHeld.2.2.2.2.2.2.2.2.1, hHeld.2.2.2.2.2.2.2.2.2.1, hHeld.2.2.2.2.2.2.2.2.2.2.1, hHeld.2.2.2.2.2.2.2.2.2.2.2⟩ (fun hHeld => ?_)
                             clear hK K
                             refine zr 135 _ ?_
                             refine zu 9 ?_
                             refine zu 10 ?_
                             refine zu 11 ?_
                             refine zu 12 ?_
                             refine zu 13 ?_
                             refine zu 15 ?_
                             refine zu 17 ?_
                             refine zt 14 ?_
                             refine zu 16 ?_
                             refine zt 18 ?_
                             refine zo 19 (fun K hK => ?_)
                             refine goes_ Tryd.func42 zk rfl #[.int .i64 (wrap64 ((rd t587 x14_2) - (wrap64 ((rd t581 x15_34) + x16_34)))), .int .i64 a0_0] (by rfl) rfl rfl zm ?_
                             with_reducible refine (saronref00_Turn.calls (wrap64 ((rd t587 x14_2) - (wrap64 ((rd t581 x15_34) + x16_34)))) a0_0 t602 _ A67.out).mono ?_
                             rintro e w' ⟨rfl, ⟨nd, rfl⟩⟩
                             refine ⟨_, rfl, ?_⟩
                             refine hK.out _ _ ⟨vb BK586 0, vb BK586 1, vb BK586 2, vb BK586 3, vb BK578 0, vb BK578 1, vb BK578 2, vb BK578 3, hHeld.2.2.2.2.2.2.2.2.1, hHeld.2.2.2.2.2.2.2.2.2.1, hHeld.2.2.2.2.2.2.2.2.2.2.1, hHeld.2.2.2.2.2.2.2.2.2.2.2⟩ (fun hHeld => ?_)
                             clear hK K
                             refine zr 146 _ ?_
                             refine zu 20 ?_
                             refine zu 21 ?_
                             refine zu 22 ?_
                             refine zu 23 ?_
                             refine zu 24 ?_
                             refine zu 26 ?_
                             refine zt 25 ?_
                             refine zt 27 ?_
                             refine zo 28 (fun K hK => ?_)
                             refine goes_ Tryd.func45 zk rfl #[.int .i64 (wrap64 ((rd t581 x15_34) + x16_34)), .int .i64 ((rd_T66 l0_3 t584).f1), .int .i64 ((rd_T66 l0_3 t584).f2)] (by rfl) rfl rfl zm ?_
                             with_reducible refine (saronref00_Sits.calls (wrap64 ((rd t581 x15_34) + x16_34)) ((rd_T66 l0_3 t584).f1) ((rd_T66 l0_3 t584).f2) true _ A69.out).mono ?_
                             rintro e w' ⟨rfl, ⟨nd, rfl⟩⟩
                             refine ⟨_, rfl, ?_⟩
                             refine hK.out _ _ ⟨vb BK586 0, vb BK586 1, vb BK586 2, vb BK586 3, vb BK578 0, vb BK578 1, vb BK578 2, vb BK578 3, hHeld.2.2.2.2.2.2.2.2.1, hHeld.2.2.2.2.2.2.2.2.2.1, hHeld.2.2.2.2.2.2.2.2.2.2.1, hHeld.2.2.2.2.2.2.2.2.2.2.2⟩ (fun hHeld => ?_)
                             clear hK K
                             refine zr 155 _ ?_
                             refine zu 29 ?_
                             refine zu 30 ?_
                             refine zu 31 ?_
                             refine zu 32 ?_
                             refine zu 34 ?_
                             refine zt 33 ?_
                             refine zu 35 ?_
                             refine zu 36 ?_
                             refine zu 37 ?_
                             refine zu 38 ?_
                             refine zu 39 ?_
                             refine zu 40 ?_
                             refine zu 42 ?_
                             refine zt 41 ?_
                             refine zt 43 ?_
                             refine zo 44 (fun K hK => ?_)
                             refine goes_ Tryd.func45 zk rfl #[.int .i64 (wrap64 ((rd t581 x15_34) + x16_34)), .int .i64 ((rd_T66 l0_3 t584).f1), .int .i64 ((rd_T66 l0_3 t584).f2)] (by rfl) rfl rfl zm ?_
                             with_reducible refine (saronref00_Sits.calls (wrap64 ((rd t581 x15_34) + x16_34)) ((rd_T66 l0_3 t584).f1) ((rd_T66 l0_3 t584).f2) false _ A72.out).mono ?_
                             rintro e w' ⟨rfl, ⟨nd, rfl⟩⟩
                             refine ⟨_, rfl, ?_⟩
                             refine hK.out _ _ ⟨vb BK586 0, vb BK586 1, vb BK586 2, vb BK586 3, vb BK578 0, vb BK578 1, vb BK578 2, vb BK578 3, hHeld.2.2.2.2.2.2.2.2.1, hHeld.2.2.2.2.2.2.2.2.2.1, hHeld.2.2.2.2.2.2.2.2.2.2.1, hHeld.2.2.2.2.2.2.2.2.2.2.2⟩ (fun hHeld => ?_)
                             clear hK K
                             refine zr 171 _ ?_
                             refine zu 45 ?_
                             refine zu 46 ?_
                             refine zu 47 ?_
                             refine zu 48 ?_
                             refine zu 49 ?_
                             refine zu 51 ?_
                             refine zu 53 ?_
                             refine zt 50 ?_
                             refine zt 52 ?_
                             refine zt 54 ?_
                             refine zu 55 ?_
                             refine zu 56 ?_
                             refine zu 57 ?_
                             refine zu 58 ?_
                             refine zd ?_
                             try go_wp2
                             go_roundg kj34
                             case measure => have := HJ12.out; have := HK2.out; have := HJ34.out; omega
                             case rel => exact ⟨(wrap64 (x14_2 + 1)), ze, H', ⟨by have := HJ12.out; have := HK2.out; have := HJ34.out; omega⟩, ⟨zR HO_7⟩, ⟨zV HO_10⟩, ⟨zc BK578⟩, ⟨zc BK586⟩, ⟨zb⟩⟩
                          ·rw [if_neg c71] at H
                           have c71b0 : ((rd t587 x14_2) == (wrap64 ((rd t581 x15_34) + x16_34))) = false := beq_eq_false_iff_ne.mpr c71
                           have c71b1 : ((rd t587 x14_2) != (wrap64 ((rd t581 x15_34) + x16_34))) = true := bne_iff_ne.mpr c71
                           obtain rfl := Option.some.inj H
                           have p596 : 0 ≤ (x15_34 : Int) := of_decide_eq_true zs
                           have q596 : x15_34 < (t581.length : Int) := of_decide_eq_true zs
                           obtain ⟨ad596, e596, hx596_0⟩ := Kd.at_int (Kd.R_reads' HO_7.out).2.2 x15_34 p596 q596
                           cases e596
                           replace p596 := eq_true p596
                           replace q596 := eq_true q596
                           have p597 : 0 ≤ (x14_2 : Int) := of_decide_eq_true zs
                           have q597 : x14_2 < (t587.length : Int) := of_decide_eq_true zs
                           obtain ⟨ad597, e597, hx597_0⟩ := Kd.at_int (Kd.V_reads' HO_10.out).2.2 x14_2 p597 q597
                           cases e597
                           replace p597 := eq_true p597
                           replace q597 := eq_true q597
                           try go_wp2
                           replace HO_7 := zh (Kd.R_drew HO_7.out)
                           replace HO_10 := zh (Kd.V_drew HO_10.out)
                           replace BK578 := zh (blk_drew BK578.out)
                           replace BK586 := zh (blk_drew BK586.out)
                           replace HB := zh (below_drew1 HB.out)
                           have p599 : 0 ≤ (x14_2 : Int) := of_decide_eq_true zs
                           have q599 : x14_2 < (t587.length : Int) := of_decide_eq_true zs
                           obtain ⟨ad599, e599, hx599_0⟩ := Kd.at_int (Kd.V_reads' HO_10.out).2.2 x14_2 p599 q599
                           obtain rfl : ad597 = ad599 := (by injection e599)
                           replace p599 := eq_true p599
                           replace q599 := eq_true q599
                           have p601 : 0 ≤ (x14_2 : Int) := of_decide_eq_true zs
                           have q601 : x14_2 < (t587.length : Int) := of_decide_eq_true zs
                           obtain ⟨ad601, e601, hx601_0⟩ := Kd.at_int (Kd.V_reads' HO_10.out).2.2 x14_2 p601 q601
                           obtain rfl : ad597 = ad601 := (by injection e601)
                           replace p601 := eq_true p601
                           replace q601 := eq_true q601
                           have p604 : 0 ≤ (x14_2 : Int) := of_decide_eq_true zs
                           have q604 : x14_2 < (t587.length : Int) := of_decide_eq_true zs
                           obtain ⟨ad604, e604, hx604_0⟩ := Kd.at_int (Kd.V_reads' HO_10.out).2.2 x14_2 p604 q604
                           obtain rfl : ad597 = ad604 := (by injection e604)
                           replace p604 := eq_true p604
                           replace q604 := eq_true q604
                           refine start_ (n := 59) (S := fun w' => w'.cell? ⟨gb586, 0, none⟩ = some (.int .i64 ((rd_T66 l0_3 t584).f0)) ∧ w'.cell? ⟨gb586, 1, none⟩ = some (.int .i64 ((rd_T66 l0_3 t584).f1)) ∧ w'.cell? ⟨gb586, 2, none⟩ = some (.int .i64 ((rd_T66 l0_3 t584).f2)) ∧ w'.cell? ⟨gb586, 3, none⟩ = some (.int .i64 ((rd_T66 l0_3 t584).f3)) ∧ w'.cell? ⟨gb578, 0, none⟩ = some (.int .i64 a0_0) ∧ w'.cell? ⟨gb578, 1, none⟩ = some (.int .i64 a0_1) ∧ w'.cell? ⟨gb578, 2, none⟩ = some (.int .i64 a0_2) ∧ w'.cell? ⟨gb578, 3, none⟩ = some (.slice (some ad585) l0_3.length c0_3) ∧ w'.cell? (ad597.add (x14_2).toNat) = some (.int .i64 (rd t587 x14_2)) ∧ w'.cell? (ad597.add (x14_2).toNat) = some (.int .i64 (rd t587 x14_2)) ∧ w'.cell? (ad597.add (x14_2).toNat) = some (.int .i64 (rd t587 x14_2))) (ds := []) (Array.replicate 59 false) zk rfl rfl ⟨vb BK586 0, vb BK586 1, vb BK586 2, vb BK586 3, vb BK578 0, vb BK578 1, vb BK578 2, vb BK578 3, hx599_0, hx601_0, hx604_0⟩ (fun hHeld => ?_); refine with_tabW saronlaw06_KernelPlays.tab32 saronlaw06_KernelPlays.bits32 (fun HT_ HW_ => ?_)
                           generalize wc.drew = w78 at HO_7 HO_10 BK578 BK586 HB hx599_0 hx601_0 hx604_0 hHeld ⊢
                           refine zu 0 ?_
                           refine zu 1 ?_
                           refine zu 2 ?_
                           refine zu 4 ?_
                           refine zu 6 ?_
                           refine zt 3 ?_
                           refine zt 5 ?_
                           refine zt 7 ?_
                           refine zo 8 (fun K hK => ?_)
                           refine goes_ Tryd.func45 zk rfl #[.int .i64 (rd t587 x14_2), .int .i64 ((rd_T66 l0_3 t584).f1), .int .i64 ((rd_T66 l0_3 t584).f2)] (by rfl) rfl rfl zm ?_
                           with_reducible refine (saronref00_Sits.calls (rd t587 x14_2) ((rd_T66 l0_3 t584).f1) ((rd_T66 l0_3 t584).f2) true _ A65.out).mono ?_
                           rintro e w' ⟨rfl, ⟨nd, rfl⟩⟩
                           refine ⟨_, rfl, ?_⟩
                           refine hK.out _ _ ⟨vb BK586 0, vb BK586 1, vb BK586 2, vb BK586 3, vb BK578 0, vb BK578 1, vb BK578 2, vb BK578 3, hHeld.2.2.2.2.2.2.2.2.1, hHeld.2.2.2.2.2.2.2.2.2.1, hHeld.2.2.2.2.2.2.2.2.2.2⟩ (fun hHeld => ?_)
                           clear hK K
                           refine zr 135 _ ?_
                           refine zu 9 ?_
                           refine zu 10 ?_
                           refine zu 11 ?_
                           refine zu 12 ?_
                           refine zu 13 ?_
                           refine zu 15 ?_
                           refine zu 17 ?_
                           refine zt 14 ?_
                           refine zu 16 ?_
                           refine zt 18 ?_
                           refine zo 19 (fun K hK => ?_)
                           refine goes_ Tryd.func42 zk rfl #[.int .i64 (wrap64 ((rd t587 x14_2) - (wrap64 ((rd t581 x15_34) + x16_34)))), .int .i64 a0_0] (by rfl) rfl rfl zm ?_
                           with_reducible refine (saronref00_Turn.calls (wrap64 ((rd t587 x14_2) - (wrap64 ((rd t581 x15_34) + x16_34)))) a0_0 t602 _ A67.out).mono ?_
                           rintro e w' ⟨rfl, ⟨nd, rfl⟩⟩
                           refine ⟨_, rfl, ?_⟩
                           refine hK.out _ _ ⟨vb BK586 0, vb BK586 1, vb BK586 2, vb BK586 3, vb BK578 0, vb BK578 1, vb BK578 2, vb BK578 3, hHeld.2.2.2.2.2.2.2.2.1, hHeld.2.2.2.2.2.2.2.2.2.1, hHeld.2.2.2.2.2.2.2.2.2.2⟩ (fun hHeld => ?_)
                           clear hK K
                           refine zr 146 _ ?_
                           refine zu 20 ?_
                           refine zu 21 ?_
                           refine zu 22 ?_
                           refine zu 23 ?_
                           refine zu 24 ?_
                           refine zu 26 ?_
                           refine zt 25 ?_
                           refine zt 27 ?_
                           refine zo 28 (fun K hK => ?_)
                           refine goes_ Tryd.func45 zk rfl #[.int .i64 (wrap64 ((rd t581 x15_34) + x16_34)), .int .i64 ((rd_T66 l0_3 t584).f1), .int .i64 ((rd_T66 l0_3 t584).f2)] (by rfl) rfl rfl zm ?_
                           with_reducible refine (saronref00_Sits.calls (wrap64 ((rd t581 x15_34) + x16_34)) ((rd_T66 l0_3 t584).f1) ((rd_T66 l0_3 t584).f2) true _ A69.out).mono ?_
                           rintro e w' ⟨rfl, ⟨nd, rfl⟩⟩
                           refine ⟨_, rfl, ?_⟩
                           refine hK.out _ _ ⟨vb BK586 0, vb BK586 1, vb BK586 2, vb BK586 3, vb BK578 0, vb BK578 1, vb BK578 2, vb BK578 3, hHeld.2.2.2.2.2.2.2.2.1, hHeld.2.2.2.2.2.2.2.2.2.1, hHeld.2.2.2.2.2.2.2.2.2.2⟩ (fun hHeld => ?_)
                           clear hK K
                           refine zr 155 _ ?_
                           refine zu 29 ?_
                           refine zu 30 ?_
                           refine zu 31 ?_
                           refine zu 32 ?_
                           refine zu 34 ?_
                           refine zt 33 ?_
                           refine zu 35 ?_
                           refine zu 36 ?_
                           refine zu 37 ?_
                           refine zu 38 ?_
                           refine zn 39 ?_
                           refine zn 40 ?_
                           refine zn 41 ?_
                           refine zn 42 ?_
                           refine zn 43 ?_
                           refine zn 44 ?_
                           refine zn 45 ?_
                           refine zn 46 ?_
                           refine zn 47 ?_
                           refine zn 48 ?_
                           refine zn 49 ?_
                           refine zn 50 ?_
                           refine zn 51 ?_
                           refine zn 52 ?_
                           refine zn 53 ?_
                           refine zn 54 ?_
                           refine zn 55 ?_
                           refine zn 56 ?_
                           refine zn 57 ?_
                           refine zu 58 ?_
                           refine zd ?_
                           try go_wp2
                           go_ret
                           exact ⟨zf, zb⟩
                         ·replace c70 := Bool.eq_false_iff.mpr c70
                          subst c70
                          have H1 : ((saronref00_Sits.f (wrap64 ((rd t581 x15_34) + x16_34)) ((rd_T66 l0_3 t584).f1) ((rd_T66 l0_3 t584).f2)).bind fun t607 => (if t607 = true then (saronlaw06_KernelPlays.l0 kj34 t581 t587 (rd y591 ((rd_T66 l0_3 t584).f0)) (wrap64 (x14_2 + 1)) a0_0 a0_1 a0_2 l0_3 ((rd_T66 l0_3 t584).f0) ((rd_T66 l0_3 t584).f1) ((rd_T66 l0_3 t584).f2) ((rd_T66 l0_3 t584).f3)) else (if (rd t587 x14_2) ≥ (wrap64 (((rd_T66 l0_3 t584).f1) + a0_0)) then (some false) else (saronlaw06_KernelPlays.l0 kj34 t581 t587 (rd y591 ((rd_T66 l0_3 t584).f0)) (wrap64 (x14_2 + 1)) a0_0 a0_1 a0_2 l0_3 ((rd_T66 l0_3 t584).f0) ((rd_T66 l0_3 t584).f1) ((rd_T66 l0_3 t584).f2) ((rd_T66 l0_3 t584).f3))))) = some r := by rw [if_neg (show ¬ (false = true) by decide)] at H; exact H
                          clear H
                          have H := H1
                          clear H1
                          replace H := Option.bind_eq_some_iff.mp H
                          obtain ⟨t607, A790, H⟩ := H
                          replace H : (if t607 = true then (saronlaw06_KernelPlays.l0 kj34 t581 t587 (rd y591 ((rd_T66 l0_3 t584).f0)) (wrap64 (x14_2 + 1)) a0_0 a0_1 a0_2 l0_3 ((rd_T66 l0_3 t584).f0) ((rd_T66 l0_3 t584).f1) ((rd_T66 l0_3 t584).f2) ((rd_T66 l0_3 t584).f3)) else (if (rd t587 x14_2) ≥ (wrap64 (((rd_T66 l0_3 t584).f1) + a0_0)) then (some false) else (saronlaw06_KernelPlays.l0 kj34 t581 t587 (rd y591 ((rd_T66 l0_3 t584).f0)) (wrap64 (x14_2 + 1)) a0_0 a0_1 a0_2 l0_3 ((rd_T66 l0_3 t584).f0) ((rd_T66 l0_3 t584).f1) ((rd_T66 l0_3 t584).f2) ((rd_T66 l0_3 t584).f3)))) = some r := H
                          have A79 := zh A790
                          clear A790
                          by_cases c80 : t607 = true
                          ·subst c80
                           have H1 : (saronlaw06_KernelPlays.l0 kj34 t581 t587 (rd y591 ((rd_T66 l0_3 t584).f0)) (wrap64 (x14_2 + 1)) a0_0 a0_1 a0_2 l0_3 ((rd_T66 l0_3 t584).f0) ((rd_T66 l0_3 t584).f1) ((rd_T66 l0_3 t584).f2) ((rd_T66 l0_3 t584).f3)) = some r := by rw [if_pos rfl] at H; exact H
                           clear H
                           have H := H1
                           clear H1
                           have H' := zh H
                           clear H
                           have p596 : 0 ≤ (x15_34 : Int) := of_decide_eq_true zs
                           have q596 : x15_34 < (t581.length : Int) := of_decide_eq_true zs
                           obtain ⟨ad596, e596, hx596_0⟩ := Kd.at_int (Kd.R_reads' HO_7.out).2.2 x15_34 p596 q596
                           cases e596
                           replace p596 := eq_true p596
                           replace q596 := eq_true q596
                           have p597 : 0 ≤ (x14_2 : Int) := of_decide_eq_true zs
                           have q597 : x14_2 < (t587.length : Int) := of_decide_eq_true zs
                           obtain ⟨ad597, e597, hx597_0⟩ := Kd.at_int (Kd.V_reads' HO_10.out).2.2 x14_2 p597 q597
                           cases e597
                           replace p597 := eq_true p597
                           replace q597 := eq_true q597
                           try go_wp2
                           replace HO_7 := zh (Kd.R_drew HO_7.out)
                           replace HO_10 := zh (Kd.V_drew HO_10.out)
                           replace BK578 := zh (blk_drew BK578.out)
                           replace BK586 := zh (blk_drew BK586.out)
                           replace HB := zh (below_drew1 HB.out)
                           have p599 : 0 ≤ (x14_2 : Int) := of_decide_eq_true zs
                           have q599 : x14_2 < (t587.length : Int) := of_decide_eq_true zs
                           obtain ⟨ad599, e599, hx599_0⟩ := Kd.at_int (Kd.V_reads' HO_10.out).2.2 x14_2 p599 q599
                           obtain rfl : ad597 = ad599 := (by injection e599)
                           replace p599 := eq_true p599
                           replace q599 := eq_true q599
                           have p601 : 0 ≤ (x14_2 : Int) := of_decide_eq_true zs
                           have q601 : x14_2 < (t587.length : Int) := of_decide_eq_true zs
                           obtain ⟨ad601, e601, hx601_0⟩ := Kd.at_int (Kd.V_reads' HO_10.out).2.2 x14_2 p601 q601
                           obtain rfl : ad597 = ad601 := (by injection e601)
                           replace p601 := eq_true p601
                           replace q601 := eq_true q601
                           refine start_ (n := 59) (S := fun w' => w'.cell? ⟨gb586, 0, none⟩ = some (.int .i64 ((rd_T66 l0_3 t584).f0)) ∧ w'.cell? ⟨gb586, 1, none⟩ = some (.int .i64 ((rd_T66 l0_3 t584).f1)) ∧ w'.cell? ⟨gb586, 2, none⟩ = some (.int .i64 ((rd_T66 l0_3 t584).f2)) ∧ w'.cell? ⟨gb586, 3, none⟩ = some (.int .i64 ((rd_T66 l0_3 t584).f3)) ∧ w'.cell? ⟨gb578, 0, none⟩ = some (.int .i64 a0_0) ∧ w'.cell? ⟨gb578, 1, none⟩ = some (.int .i64 a0_1) ∧ w'.cell? ⟨gb578, 2, none⟩ = some (.int .i64 a0_2) ∧ w'.cell? ⟨gb578, 3, none⟩ = some (.slice (some ad585) l0_3.length c0_3) ∧ w'.cell? (ad597.add (x14_2).toNat) = some (.int .i64 (rd t587 x14_2)) ∧ w'.cell? (ad597.add (x14_2).toNat) = some (.int .i64 (rd t587 x14_2))) (ds := []) (Array.replicate 59 false) zk rfl rfl ⟨vb BK586 0, vb BK586 1, vb BK586 2, vb BK586 3, vb BK578 0, vb BK578 1, vb BK578 2, vb BK578 3, hx599_0, hx601_0⟩ (fun hHeld => ?_); refine with_tabW saronlaw06_KernelPlays.tab32 saronlaw06_KernelPlays.bits32 (fun HT_ HW_ => ?_)
                           generalize wc.drew = w81 at HO_7 HO_10 BK578 BK586 HB hx599_0 hx601_0 hHeld ⊢
                           refine zu 0 ?_
                           refine zu 1 ?_
                           refine zu 2 ?_
                           refine zu 4 ?_
                           refine zu 6 ?_
                           refine zt 3 ?_
                           refine zt 5 ?_
                           refine zt 7 ?_
                           refine zo 8 (fun K hK => ?_)
                           refine goes_ Tryd.func45 zk rfl #[.int .i64 (rd t587 x14_2), .int .i64 ((rd_T66 l0_3 t584).f1), .int .i64 ((rd_T66 l0_3 t584).f2)] (by rfl) rfl rfl zm ?_
                           with_reducible refine (saronref00_Sits.calls (rd t587 x14_2) ((rd_T66 l0_3 t584).f1) ((rd_T66 l0_3 t584).f2) true _ A65.out).mono ?_
                           rintro e w' ⟨rfl, ⟨nd, rfl⟩⟩
                           refine ⟨_, rfl, ?_⟩
                           refine hK.out _ _ ⟨vb BK586 0, vb BK586 1, vb BK586 2, vb BK586 3, vb BK578 0, vb BK578 1, vb BK578 2, vb BK578 3, hHeld.2.2.2.2.2.2.2.2.1, hHeld.2.2.2.2.2.2.2.2.2⟩ (fun hHeld => ?_)
                           clear hK K
                           refine zr 135 _ ?_
                           refine zu 9 ?_
                           refine zu 10 ?_
                           refine zu 11 ?_
                           refine zu 12 ?_
                           refine zu 13 ?_
                           refine zu 15 ?_
                           refine zu 17 ?_
                           refine zt 14 ?_
                           refine zu 16 ?_
                           refine zt 18 ?_
                           refine zo 19 (fun K hK => ?_)
                           refine goes_ Tryd.func42 zk rfl #[.int .i64 (wrap64 ((rd t587 x14_2) - (wrap64 ((rd t581 x15_34) + x16_34)))), .int .i64 a0_0] (by rfl) rfl rfl zm ?_
                           with_reducible refine (saronref00_Turn.calls (wrap64 ((rd t587 x14_2) - (wrap64 ((rd t581 x15_34) + x16_34)))) a0_0 t602 _ A67.out).mono ?_
                           rintro e w' ⟨rfl, ⟨nd, rfl⟩⟩
                           refine ⟨_, rfl, ?_⟩
                           refine hK.out _ _ ⟨vb BK586 0, vb BK586 1, vb BK586 2, vb BK586 3, vb BK578 0, vb BK578 1, vb BK578 2, vb BK578 3, hHeld.2.2.2.2.2.2.2.2.1, hHeld.2.2.2.2.2.2.2.2.2⟩ (fun hHeld => ?_)
                           clear hK K
                           refine zr 146 _ ?_
                           refine zu 20 ?_
                           refine zu 21 ?_
                           refine zu 22 ?_
                           refine zu 23 ?_
                           refine zu 24 ?_
                           refine zu 26 ?_
                           refine zt 25 ?_
                           refine zt 27 ?_
                           refine zo 28 (fun K hK => ?_)
                           refine goes_ Tryd.func45 zk rfl #[.int .i64 (wrap64 ((rd t581 x15_34) + x16_34)), .int .i64 ((rd_T66 l0_3 t584).f1), .int .i64 ((rd_T66 l0_3 t584).f2)] (by rfl) rfl rfl zm ?_
                           with_reducible refine (saronref00_Sits.calls (wrap64 ((rd t581 x15_34) + x16_34)) ((rd_T66 l0_3 t584).f1) ((rd_T66 l0_3 t584).f2) false _ A69.out).mono ?_
                           rintro e w' ⟨rfl, ⟨nd, rfl⟩⟩
                           refine ⟨_, rfl, ?_⟩
                           refine hK.out _ _ ⟨vb BK586 0, vb BK586 1, vb BK586 2, vb BK586 3, vb BK578 0, vb BK578 1, vb BK578 2, vb BK578 3, hHeld.2.2.2.2.2.2.2.2.1, hHeld.2.2.2.2.2.2.2.2.2⟩ (fun hHeld => ?_)
                           clear hK K
                           refine zr 155 _ ?_
                           refine zu 29 ?_
                           refine zn 30 ?_
                           refine zn 31 ?_
                           refine zn 32 ?_
                           refine zn 33 ?_
                           refine zn 34 ?_
                           refine zn 35 ?_
                           refine zu 36 ?_
                           refine zu 37 ?_
                           refine zu 38 ?_
                           refine zu 39 ?_
                           refine zu 40 ?_
                           refine zu 42 ?_
                           refine zt 41 ?_
                           refine zt 43 ?_
                           refine zo 44 (fun K hK => ?_)
                           refine goes_ Tryd.func45 zk rfl #[.int .i64 (wrap64 ((rd t581 x15_34) + x16_34)), .int .i64 ((rd_T66 l0_3 t584).f1), .int .i64 ((rd_T66 l0_3 t584).f2)] (by rfl) rfl rfl zm ?_
                           with_reducible refine (saronref00_Sits.calls (wrap64 ((rd t581 x15_34) + x16_34)) ((rd_T66 l0_3 t584).f1) ((rd_T66 l0_3 t584).f2) true _ A79.out).mono ?_
                           rintro e w' ⟨rfl, ⟨nd, rfl⟩⟩
                           refine ⟨_, rfl, ?_⟩
                           refine hK.out _ _ ⟨vb BK586 0, vb BK586 1, vb BK586 2, vb BK586 3, vb BK578 0, vb BK578 1, vb BK578 2, vb BK578 3, hHeld.2.2.2.2.2.2.2.2.1, hHeld.2.2.2.2.2.2.2.2.2⟩ (fun hHeld => ?_)
                           clear hK K
                           refine zr 171 _ ?_
                           refine zu 45 ?_
                           refine zu 46 ?_
                           refine zn 47 ?_
                           refine zn 48 ?_
                           refine zn 49 ?_
                           refine zn 50 ?_
                           refine zn 51 ?_
                           refine zn 52 ?_
                           refine zn 53 ?_
                           refine zn 54 ?_
                           refine zn 55 ?_
                           refine zn 56 ?_
                           refine zu 57 ?_
                           refine zu 58 ?_
                           refine zd ?_
                           try go_wp2
                           go_roundg kj34
                           case measure => have := HJ12.out; have := HK2.out; have := HJ34.out; omega
                           case rel => exact ⟨(wrap64 (x14_2 + 1)), ze, H', ⟨by have := HJ12.out; have := HK2.out; have := HJ34.out; omega⟩, ⟨zR HO_7⟩, ⟨zV HO_10⟩, ⟨zc BK578⟩, ⟨zc BK586⟩, ⟨zb⟩⟩
                          ·replace c80 := Bool.eq_false_iff.mpr c80
                           subst c80
                           have H1 : (if (rd t587 x14_2) ≥ (wrap64 (((rd_T66 l0_3 t584).f1) + a0_0)) then (some false) else (saronlaw06_KernelPlays.l0 kj34 t581 t587 (rd y591 ((rd_T66 l0_3 t584).f0)) (wrap64 (x14_2 + 1)) a0_0 a0_1 a0_2 l0_3 ((rd_T66 l0_3 t584).f0) ((rd_T66 l0_3 t584).f1) ((rd_T66 l0_3 t584).f2) ((rd_T66 l0_3 t584).f3))) = some r := by rw [if_neg (show ¬ (false = true) by decide)] at H; exact H
                           clear H
                           have H := H1
                           clear H1
                           by_cases c82 : (rd t587 x14_2) ≥ (wrap64 (((rd_T66 l0_3 t584).f1) + a0_0))
                           ·rw [if_pos c82] at H
                            have c82b0 : decide ((wrap64 (((rd_T66 l0_3 t584).f1) + a0_0)) ≤ (rd t587 x14_2)) = true := decide_eq_true c82
                            clear c82
                            obtain rfl := Option.some.inj H
                            have p596 : 0 ≤ (x15_34 : Int) := of_decide_eq_true zs
                            have q596 : x15_34 < (t581.length : Int) := of_decide_eq_true zs
                            obtain ⟨ad596, e596, hx596_0⟩ := Kd.at_int (Kd.R_reads' HO_7.out).2.2 x15_34 p596 q596
                            cases e596
                            replace p596 := eq_true p596
                            replace q596 := eq_true q596
                            have p597 : 0 ≤ (x14_2 : Int) := of_decide_eq_true zs
                            have q597 : x14_2 < (t587.length : Int) := of_decide_eq_true zs
                            obtain ⟨ad597, e597, hx597_0⟩ := Kd.at_int (Kd.V_reads' HO_10.out).2.2 x14_2 p597 q597
                            cases e597
                            replace p597 := eq_true p597
                            replace q597 := eq_true q597
                            try go_wp2
                            replace HO_7 := zh (Kd.R_drew HO_7.out)
                            replace HO_10 := zh (Kd.V_drew HO_10.out)
                            replace BK578 := zh (blk_drew BK578.out)
                            replace BK586 := zh (blk_drew BK586.out)
                            replace HB := zh (below_drew1 HB.out)
                            have p599 : 0 ≤ (x14_2 : Int) := of_decide_eq_true zs
                            have q599 : x14_2 < (t587.length : Int) := of_decide_eq_true zs
                            obtain ⟨ad599, e599, hx599_0⟩ := Kd.at_int (Kd.V_reads' HO_10.out).2.2 x14_2 p599 q599
                            obtain rfl : ad597 = ad599 := (by injection e599)
                            replace p599 := eq_true p599
                            replace q599 := eq_true q599
                            have p601 : 0 ≤ (x14_2 : Int) := of_decide_eq_true zs
                            have q601 : x14_2 < (t587.length : Int) := of_decide_eq_true zs
                            obtain ⟨ad601, e601, hx601_0⟩ := Kd.at_int (Kd.V_reads' HO_10.out).2.2 x14_2 p601 q601
                            obtain rfl : ad597 = ad601 := (by injection e601)
                            replace p601 := eq_true p601
                            replace q601 := eq_true q601
                            have p608 : 0 ≤ (x14_2 : Int) := of_decide_eq_true zs
                            have q608 : x14_2 < (t587.length : Int) := of_decide_eq_true zs
                            obtain ⟨ad608, e608, hx608_0⟩ := Kd.at_int (Kd.V_reads' HO_10.out).2.2 x14_2 p608 q608
                            obtain rfl : ad597 = ad608 := (by injection e608)
                            replace p608 := eq_true p608
                            replace q608 := eq_true q608
                            refine start_ (n := 59) (S := fun w' => w'.cell? ⟨gb586, 0, none⟩ = some (.int .i64 ((rd_T66 l0_3 t584).f0)) ∧ w'.cell? ⟨gb586, 1, none⟩ = some (.int .i64 ((rd_T66 l0_3 t584).f1)) ∧ w'.cell? ⟨gb586, 2, none⟩ = some (.int .i64 ((rd_T66 l0_3 t584).f2)) ∧ w'.cell? ⟨gb586, 3, none⟩ = some (.int .i64 ((rd_T66 l0_3 t584).f3)) ∧ w'.cell? ⟨gb578, 0, none⟩ = some (.int .i64 a0_0) ∧ w'.cell? ⟨gb578, 1, none⟩ = some (.int .i64 a0_1) ∧ w'.cell? ⟨gb578, 2, none⟩ = some (.int .i64 a0_2) ∧ w'.cell? ⟨gb578, 3, none⟩ = some (.slice (some ad585) l0_3.length c0_3) ∧ w'.cell? (ad597.add (x14_2).toNat) = some (.int .i64 (rd t587 x14_2)) ∧ w'.cell? (ad597.add (x14_2).toNat) = some (.int .i64 (rd t587 x14_2)) ∧ w'.cell? (ad597.add (x14_2).toNat) = some (.int .i64 (rd t587 x14_2))) (ds := []) (Array.replicate 59 false) zk rfl rfl ⟨vb BK586 0, vb BK586 1, vb BK586 2, vb BK586 3, vb BK578 0, vb BK578 1, vb BK578 2, vb BK578 3, hx599_0, hx601_0, hx608_0⟩ (fun hHeld => ?_); refine with_tabW saronlaw06_KernelPlays.tab32 saronlaw06_KernelPlays.bits32 (fun HT_ HW_ => ?_)
                            generalize wc.drew = w83 at HO_7 HO_10 BK578 BK586 HB hx599_0 hx601_0 hx608_0 hHeld ⊢
                            refine zu 0 ?_
                            refine zu 1 ?_
                            refine zu 2 ?_
                            refine zu 4 ?_
                            refine zu 6 ?_
                            refine zt 3 ?_
                            refine zt 5 ?_
                            refine zt 7 ?_
                            refine zo 8 (fun K hK => ?_)
                            refine goes_ Tryd.func45 zk rfl #[.int .i64 (rd t587 x14_2), .int .i64 ((rd_T66 l0_3 t584).f1), .int .i64 ((rd_T66 l0_3 t584).f2)] (by rfl) rfl rfl zm ?_
                            with_reducible refine (saronref00_Sits.calls (rd t587 x14_2) ((rd_T66 l0_3 t584).f1) ((rd_T66 l0_3 t584).f2) true _ A65.out).mono ?_
                            rintro e w' ⟨rfl, ⟨nd, rfl⟩⟩
                            refine ⟨_, rfl, ?_⟩
                            refine hK.out _ _ ⟨vb BK586 0, vb BK586 1, vb BK586 2, vb BK586 3, vb BK578 0, vb BK578 1, vb BK578 2, vb BK578 3, hHeld.2.2.2.2.2.2.2.2.1, hHeld.2.2.2.2.2.2.2.2.2.1, hHeld.2.2.2.2.2.2.2.2.2.2⟩ (fun hHeld => ?_)
                            clear hK K
                            refine zr 135 _ ?_
                            refine zu 9 ?_
                            refine zu 10 ?_
                            refine zu 11 ?_
                            refine zu 12 ?_
                            refine zu 13 ?_
                            refine zu 15 ?_
                            refine zu 17 ?_
                            refine zt 14 ?_
                            refine zu 16 ?_
                            refine zt 18 ?_
                            refine zo 19 (fun K hK => ?_)
                            refine goes_ Tryd.func42 zk rfl #[.int .i64 (wrap64 ((rd t587 x14_2) - (wrap64 ((rd t581 x15_34) + x16_34)))), .int .i64 a0_0] (by rfl) rfl rfl zm ?_
                            with_reducible refine (saronref00_Turn.calls (wrap64 ((rd t587 x14_2) - (wrap64 ((rd t581 x15_34) + x16_34)))) a0_0 t602 _ A67.out).mono ?_
                            rintro e w' ⟨rfl, ⟨nd, rfl⟩⟩
                            refine ⟨_, rfl, ?_⟩
                            refine hK.out _ _ ⟨vb BK586 0, vb BK586 1, vb BK586 2, vb BK586 3, vb BK578 0, vb BK578 1, vb BK578 2, vb BK578 3, hHeld.2.2.2.2.2.2.2.2.1, hHeld.2.2.2.2.2.2.2.2.2.1, hHeld.2.2.2.2.2.2.2.2.2.2⟩ (fun hHeld => ?_)
                            clear hK K
                            refine zr 146 _ ?_
                            refine zu 20 ?_
                            refine zu 21 ?_
                            refine zu 22 ?_
                            refine zu 23 ?_
                            refine zu 24 ?_
                            refine zu 26 ?_
                            refine zt 25 ?_
                            refine zt 27 ?_
                            refine zo 28 (fun K hK => ?_)
                            refine goes_ Tryd.func45 zk rfl #[.int .i64 (wrap64 ((rd t581 x15_34) + x16_34)), .int .i64 ((rd_T66 l0_3 t584).f1), .int .i64 ((rd_T66 l0_3 t584).f2)] (by rfl) rfl rfl zm ?_
                            with_reducible refine (saronref00_Sits.calls (wrap64 ((rd t581 x15_34) + x16_34)) ((rd_T66 l0_3 t584).f1) ((rd_T66 l0_3 t584).f2) false _ A69.out).mono ?_
                            rintro e w' ⟨rfl, ⟨nd, rfl⟩⟩
                            refine ⟨_, rfl, ?_⟩
                            refine hK.out _ _ ⟨vb BK586 0, vb BK586 1, vb BK586 2, vb BK586 3, vb BK578 0, vb BK578 1, vb BK578 2, vb BK578 3, hHeld.2.2.2.2.2.2.2.2.1, hHeld.2.2.2.2.2.2.2.2.2.1, hHeld.2.2.2.2.2.2.2.2.2.2⟩ (fun hHeld => ?_)
                            clear hK K
                            refine zr 155 _ ?_
                            refine zu 29 ?_
                            refine zn 30 ?_
                            refine zn 31 ?_
                            refine zn 32 ?_
                            refine zn 33 ?_
                            refine zn 34 ?_
                            refine zn 35 ?_
                            refine zu 36 ?_
                            refine zu 37 ?_
                            refine zu 38 ?_
                            refine zu 39 ?_
                            refine zu 40 ?_
                            refine zu 42 ?_
                            refine zt 41 ?_
                            refine zt 43 ?_
                            refine zo 44 (fun K hK => ?_)
                            refine goes_ Tryd.func45 zk rfl #[.int .i64 (wrap64 ((rd t581 x15_34) + x16_34)), .int .i64 ((rd_T66 l0_3 t584).f1), .int .i64 ((rd_T66 l0_3 t584).f2)] (by rfl) rfl rfl zm ?_
                            with_reducible refine (saronref00_Sits.calls (wrap64 ((rd t581 x15_34) + x16_34)) ((rd_T66 l0_3 t584).f1) ((rd_T66 l0_3 t584).f2) false _ A79.out).mono ?_
                            rintro e w' ⟨rfl, ⟨nd, rfl⟩⟩
                            refine ⟨_, rfl, ?_⟩
                            refine hK.out _ _ ⟨vb BK586 0, vb BK586 1, vb BK586 2, vb BK586 3, vb BK578 0, vb BK578 1, vb BK578 2, vb BK578 3, hHeld.2.2.2.2.2.2.2.2.1, hHeld.2.2.2.2.2.2.2.2.2.1, hHeld.2.2.2.2.2.2.2.2.2.2⟩ (fun hHeld => ?_)
                            clear hK K
                            refine zr 171 _ ?_
                            refine zu 45 ?_
                            refine zu 46 ?_
                            refine zu 47 ?_
                            refine zu 48 ?_
                            refine zu 49 ?_
                            refine zu 51 ?_
                            refine zu 53 ?_
                            refine zt 50 ?_
                            refine zt 52 ?_
                            refine zt 54 ?_
                            refine zu 55 ?_
                            refine zu 56 ?_
                            refine zu 57 ?_
                            refine zu 58 ?_
                            refine zd ?_
                            try go_wp2
                            go_ret
                            exact ⟨zf, zb⟩
                           ·rw [if_neg c82] at H
                            have c82b0 : decide ((wrap64 (((rd_T66 l0_3 t584).f1) + a0_0)) ≤ (rd t587 x14_2)) = false := decide_eq_false c82
                            clear c82
                            have H' := zh H
                            clear H
                            have p596 : 0 ≤ (x15_34 : Int) := of_decide_eq_true zs
                            have q596 : x15_34 < (t581.length : Int) := of_decide_eq_true zs
                            obtain ⟨ad596, e596, hx596_0⟩ := Kd.at_int (Kd.R_reads' HO_7.out).2.2 x15_34 p596 q596
                            cases e596
                            replace p596 := eq_true p596
                            replace q596 := eq_true q596
                            have p597 : 0 ≤ (x14_2 : Int) := of_decide_eq_true zs
                            have q597 : x14_2 < (t587.length : Int) := of_decide_eq_true zs
                            obtain ⟨ad597, e597, hx597_0⟩ := Kd.at_int (Kd.V_reads' HO_10.out).2.2 x14_2 p597 q597
                            cases e597
                            replace p597 := eq_true p597
                            replace q597 := eq_true q597
                            try go_wp2
                            replace HO_7 := zh (Kd.R_drew HO_7.out)
                            replace HO_10 := zh (Kd.V_drew HO_10.out)
                            replace BK578 := zh (blk_drew BK578.out)
                            replace BK586 := zh (blk_drew BK586.out)
                            replace HB := zh (below_drew1 HB.out)
                            have p599 : 0 ≤ (x14_2 : Int) := of_decide_eq_true zs
                            have q599 : x14_2 < (t587.length : Int) := of_decide_eq_true zs
                            obtain ⟨ad599, e599, hx599_0⟩ := Kd.at_int (Kd.V_reads' HO_10.out).2.2 x14_2 p599 q599
                            obtain rfl : ad597 = ad599 := (by injection e599)
                            replace p599 := eq_true p599
                            replace q599 := eq_true q599
                            have p601 : 0 ≤ (x14_2 : Int) := of_decide_eq_true zs
                            have q601 : x14_2 < (t587.length : Int) := of_decide_eq_true zs
                            obtain ⟨ad601, e601, hx601_0⟩ := Kd.at_int (Kd.V_reads' HO_10.out).2.2 x14_2 p601 q601
                            obtain rfl : ad597 = ad601 := (by injection e601)
                            replace p601 := eq_true p601
                            replace q601 := eq_true q601
                            have p608 : 0 ≤ (x14_2 : Int) := of_decide_eq_true zs
                            have q608 : x14_2 < (t587.length : Int) := of_decide_eq_true zs
                            obtain ⟨ad608, e608, hx608_0⟩ := Kd.at_int (Kd.V_reads' HO_10.out).2.2 x14_2 p608 q608
                            obtain rfl : ad597 = ad608 := (by injection e608)
                            replace p608 := eq_true p608
                            replace q608 := eq_true q608
                            refine start_ (n := 59) (S := fun w' => w'.cell? ⟨gb586, 0, none⟩ = some (.int .i64 ((rd_T66 l0_3 t584).f0)) ∧ w'.cell? ⟨gb586, 1, none⟩ = some (.int .i64 ((rd_T66 l0_3 t584).f1)) ∧ w'.cell? ⟨gb586, 2, none⟩ = some (.int .i64 ((rd_T66 l0_3 t584).f2)) ∧ w'.cell? ⟨gb586, 3, none⟩ = some (.int .i64 ((rd_T66 l0_3 t584).f3)) ∧ w'.cell? ⟨gb578, 0, none⟩ = some (.int .i64 a0_0) ∧ w'.cell? ⟨gb578, 1, none⟩ = some (.int .i64 a0_1) ∧ w'.cell? ⟨gb578, 2, none⟩ = some (.int .i64 a0_2) ∧ w'.cell? ⟨gb578, 3, none⟩ = some (.slice (some ad585) l0_3.length c0_3) ∧ w'.cell? (ad597.add (x14_2).toNat) = some (.int .i64 (rd t587 x14_2)) ∧ w'.cell? (ad597.add (x14_2).toNat) = some (.int .i64 (rd t587 x14_2)) ∧ w'.cell? (ad597.add (x14_2).toNat) = some (.int .i64 (rd t587 x14_2))) (ds := []) (Array.replicate 59 false) zk rfl rfl ⟨vb BK586 0, vb BK586 1, vb BK586 2, vb BK586 3, vb BK578 0, vb BK578 1, vb BK578 2, vb BK578 3, hx599_0, hx601_0, hx608_0⟩ (fun hHeld => ?_); refine with_tabW saronlaw06_KernelPlays.tab32 saronlaw06_KernelPlays.bits32 (fun HT_ HW_ => ?_)
                            generalize wc.drew = w84 at HO_7 HO_10 BK578 BK586 HB hx599_0 hx601_0 hx608_0 hHeld ⊢
                            refine zu 0 ?_
                            refine zu 1 ?_
                            refine zu 2 ?_
                            refine zu 4 ?_
                            refine zu 6 ?_
                            refine zt 3 ?_
                            refine zt 5 ?_
                            refine zt 7 ?_
                            refine zo 8 (fun K hK => ?_)
                            refine goes_ Tryd.func45 zk rfl #[.int .i64 (rd t587 x14_2), .int .i64 ((rd_T66 l0_3 t584).f1), .int .i64 ((rd_T66 l0_3 t584).f2)] (by rfl) rfl rfl zm ?_
                            with_reducible refine (saronref00_Sits.calls (rd t587 x14_2) ((rd_T66 l0_3 t584).f1) ((rd_T66 l0_3 t584).f2) true _ A65.out).mono ?_
                            rintro e w' ⟨rfl, ⟨nd, rfl⟩⟩
                            refine ⟨_, rfl, ?_⟩
                            refine hK.out _ _ ⟨vb BK586 0, vb BK586 1, vb BK586 2, vb BK586 3, vb BK578 0, vb BK578 1, vb BK578 2, vb BK578 3, hHeld.2.2.2.2.2.2.2.2.1, hHeld.2.2.2.2.2.2.2.2.2.1, hHeld.2.2.2.2.2.2.2.2.2.2⟩ (fun hHeld => ?_)
                            clear hK K
                            refine zr 135 _ ?_
                            refine zu 9 ?_
                            refine zu 10 ?_
                            refine zu 11 ?_
                            refine zu 12 ?_
                            refine zu 13 ?_
                            refine zu 15 ?_
                            refine zu 17 ?_
                            refine zt 14 ?_
                            refine zu 16 ?_
                            refine zt 18 ?_
                            refine zo 19 (fun K hK => ?_)
                            refine goes_ Tryd.func42 zk rfl #[.int .i64 (wrap64 ((rd t587 x14_2) - (wrap64 ((rd t581 x15_34) + x16_34)))), .int .i64 a0_0] (by rfl) rfl rfl zm ?_
                            with_reducible refine (saronref00_Turn.calls (wrap64 ((rd t587 x14_2) - (wrap64 ((rd t581 x15_34) + x16_34)))) a0_0 t602 _ A67.out).mono ?_
                            rintro e w' ⟨rfl, ⟨nd, rfl⟩⟩
                            refine ⟨_, rfl, ?_⟩
                            refine hK.out _ _ ⟨vb BK586 0, vb BK586 1, vb BK586 2, vb BK586 3, vb BK578 0, vb BK578 1, vb BK578 2, vb BK578 3, hHeld.2.2.2.2.2.2.2.2.1, hHeld.2.2.2.2.2.2.2.2.2.1, hHeld.2.2.2.2.2.2.2.2.2.2⟩ (fun hHeld => ?_)
                            clear hK K
                            refine zr 146 _ ?_
                            refine zu 20 ?_
                            refine zu 21 ?_
                            refine zu 22 ?_
                            refine zu 23 ?_
                            refine zu 24 ?_
                            refine zu 26 ?_
                            refine zt 25 ?_
                            refine zt 27 ?_
                            refine zo 28 (fun K hK => ?_)
                            refine goes_ Tryd.func45 zk rfl #[.int .i64 (wrap64 ((rd t581 x15_34) + x16_34)), .int .i64 ((rd_T66 l0_3 t584).f1), .int .i64 ((rd_T66 l0_3 t584).f2)] (by rfl) rfl rfl zm ?_
                            with_reducible refine (saronref00_Sits.calls (wrap64 ((rd t581 x15_34) + x16_34)) ((rd_T66 l0_3 t584).f1) ((rd_T66 l0_3 t584).f2) false _ A69.out).mono ?_
                            rintro e w' ⟨rfl, ⟨nd, rfl⟩⟩
                            refine ⟨_, rfl, ?_⟩
                            refine hK.out _ _ ⟨vb BK586 0, vb BK586 1, vb BK586 2, vb BK586 3, vb BK578 0, vb BK578 1, vb BK578 2, vb BK578 3, hHeld.2.2.2.2.2.2.2.2.1, hHeld.2.2.2.2.2.2.2.2.2.1, hHeld.2.2.2.2.2.2.2.2.2.2⟩ (fun hHeld => ?_)
                            clear hK K
                            refine zr 155 _ ?_
                            refine zu 29 ?_
                            refine zn 30 ?_
                            refine zn 31 ?_
                            refine zn 32 ?_
                            refine zn 33 ?_
                            refine zn 34 ?_
                            refine zn 35 ?_
                            refine zu 36 ?_
                            refine zu 37 ?_
                            refine zu 38 ?_
                            refine zu 39 ?_
                            refine zu 40 ?_
                            refine zu 42 ?_
                            refine zt 41 ?_
                            refine zt 43 ?_
                            refine zo 44 (fun K hK => ?_)
                            refine goes_ Tryd.func45 zk rfl #[.int .i64 (wrap64 ((rd t581 x15_34) + x16_34)), .int .i64 ((rd_T66 l0_3 t584).f1), .int .i64 ((rd_T66 l0_3 t584).f2)] (by rfl) rfl rfl zm ?_
                            with_reducible refine (saronref00_Sits.calls (wrap64 ((rd t581 x15_34) + x16_34)) ((rd_T66 l0_3 t584).f1) ((rd_T66 l0_3 t584).f2) false _ A79.out).mono ?_
                            rintro e w' ⟨rfl, ⟨nd, rfl⟩⟩
                            refine ⟨_, rfl, ?_⟩
                            refine hK.out _ _ ⟨vb BK586 0, vb BK586 1, vb BK586 2, vb BK586 3, vb BK578 0, vb BK578 1, vb BK578 2, vb BK578 3, hHeld.2.2.2.2.2.2.2.2.1, hHeld.2.2.2.2.2.2.2.2.2.1, hHeld.2.2.2.2.2.2.2.2.2.2⟩ (fun hHeld => ?_)
                            clear hK K
                            refine zr 171 _ ?_
                            refine zu 45 ?_
                            refine zu 46 ?_
                            refine zu 47 ?_
                            refine zu 48 ?_
                            refine zu 49 ?_
                            refine zu 51 ?_
                            refine zu 53 ?_
                            refine zt 50 ?_
                            refine zt 52 ?_
                            refine zt 54 ?_
                            refine zu 55 ?_
                            refine zu 56 ?_
                            refine zu 57 ?_
                            refine zu 58 ?_
                            refine zd ?_
                            try go_wp2
                            go_roundg kj34
                            case measure => have := HJ12.out; have := HK2.out; have := HJ34.out; omega
                            case rel => exact ⟨(wrap64 (x14_2 + 1)), ze, H', ⟨by have := HJ12.out; have := HK2.out; have := HJ34.out; omega⟩, ⟨zR HO_7⟩, ⟨zV HO_10⟩, ⟨zc BK578⟩, ⟨zc BK586⟩, ⟨zb⟩⟩
                        ·rw [if_neg c68] at H
                         have c68b0 : (t602 == 0) = false := beq_eq_false_iff_ne.mpr c68
                         have c68b1 : (t602 != 0) = true := bne_iff_ne.mpr c68
                         obtain rfl := Option.some.inj H
                         have p596 : 0 ≤ (x15_34 : Int) := of_decide_eq_true zs
                         have q596 : x15_34 < (t581.length : Int) := of_decide_eq_true zs
                         obtain ⟨ad596, e596, hx596_0⟩ := Kd.at_int (Kd.R_reads' HO_7.out).2.2 x15_34 p596 q596
                         cases e596
                         replace p596 := eq_true p596
                         replace q596 := eq_true q596
                         have p597 : 0 ≤ (x14_2 : Int) := of_decide_eq_true zs
                         have q597 : x14_2 < (t587.length : Int) := of_decide_eq_true zs
                         obtain ⟨ad597, e597, hx597_0⟩ := Kd.at_int (Kd.V_reads' HO_10.out).2.2 x14_2 p597 q597
                         cases e597
                         replace p597 := eq_true p597
                         replace q597 := eq_true q597
                         try go_wp2
                         replace HO_7 := zh (Kd.R_drew HO_7.out)
                         replace HO_10 := zh (Kd.V_drew HO_10.out)
                         replace BK578 := zh (blk_drew BK578.out)
                         replace BK586 := zh (blk_drew BK586.out)
                         replace HB := zh (below_drew1 HB.out)
                         have p599 : 0 ≤ (x14_2 : Int) := of_decide_eq_true zs
                         have q599 : x14_2 < (t587.length : Int) := of_decide_eq_true zs
                         obtain ⟨ad599, e599, hx599_0⟩ := Kd.at_int (Kd.V_reads' HO_10.out).2.2 x14_2 p599 q599
                         obtain rfl : ad597 = ad599 := (by injection e599)
                         replace p599 := eq_true p599
                         replace q599 := eq_true q599
                         have p601 : 0 ≤ (x14_2 : Int) := of_decide_eq_true zs
                         have q601 : x14_2 < (t587.length : Int) := of_decide_eq_true zs
                         obtain ⟨ad601, e601, hx601_0⟩ := Kd.at_int (Kd.V_reads' HO_10.out).2.2 x14_2 p601 q601
                         obtain rfl : ad597 = ad601 := (by injection e601)
                         replace p601 := eq_true p601
                         replace q601 := eq_true q601
                         refine start_ (n := 59) (S := fun w' => w'.cell? ⟨gb586, 0, none⟩ = some (.int .i64 ((rd_T66 l0_3 t584).f0)) ∧ w'.cell? ⟨gb586, 1, none⟩ = some (.int .i64 ((rd_T66 l0_3 t584).f1)) ∧ w'.cell? ⟨gb586, 2, none⟩ = some (.int .i64 ((rd_T66 l0_3 t584).f2)) ∧ w'.cell? ⟨gb586, 3, none⟩ = some (.int .i64 ((rd_T66 l0_3 t584).f3)) ∧ w'.cell? ⟨gb578, 0, none⟩ = some (.int .i64 a0_0) ∧ w'.cell? ⟨gb578, 1, none⟩ = some (.int .i64 a0_1) ∧ w'.cell? ⟨gb578, 2, none⟩ = some (.int .i64 a0_2) ∧ w'.cell? ⟨gb578, 3, none⟩ = some (.slice (some ad585) l0_3.length c0_3) ∧ w'.cell? (ad597.add (x14_2).toNat) = some (.int .i64 (rd t587 x14_2)) ∧ w'.cell? (ad597.add (x14_2).toNat) = some (.int .i64 (rd t587 x14_2))) (ds := []) (Array.replicate 59 false) zk rfl rfl ⟨vb BK586 0, vb BK586 1, vb BK586 2, vb BK586 3, vb BK578 0, vb BK578 1, vb BK578 2, vb BK578 3, hx599_0, hx601_0⟩ (fun hHeld => ?_); refine with_tabW saronlaw06_KernelPlays.tab32 saronlaw06_KernelPlays.bits32 (fun HT_ HW_ => ?_)
                         generalize wc.drew = w85 at HO_7 HO_10 BK578 BK586 HB hx599_0 hx601_0 hHeld ⊢
                         refine zu 0 ?_
                         refine zu 1 ?_
                         refine zu 2 ?_
                         refine zu 4 ?_
                         refine zu 6 ?_
                         refine zt 3 ?_
                         refine zt 5 ?_
                         refine zt 7 ?_
                         refine zo 8 (fun K hK => ?_)
                         refine goes_ Tryd.func45 zk rfl #[.int .i64 (rd t587 x14_2), .int .i64 ((rd_T66 l0_3 t584).f1), .int .i64 ((rd_T66 l0_3 t584).f2)] (by rfl) rfl rfl zm ?_
                         with_reducible refine (saronref00_Sits.calls (rd t587 x14_2) ((rd_T66 l0_3 t584).f1) ((rd_T66 l0_3 t584).f2) true _ A65.out).mono ?_
                         rintro e w' ⟨rfl, ⟨nd, rfl⟩⟩
                         refine ⟨_, rfl, ?_⟩
                         refine hK.out _ _ ⟨vb BK586 0, vb BK586 1, vb BK586 2, vb BK586 3, vb BK578 0, vb BK578 1, vb BK578 2, vb BK578 3, hHeld.2.2.2.2.2.2.2.2.1, hHeld.2.2.2.2.2.2.2.2.2⟩ (fun hHeld => ?_)
                         clear hK K
                         refine zr 135 _ ?_
                         refine zu 9 ?_
                         refine zu 10 ?_
                         refine zu 11 ?_
                         refine zu 12 ?_
                         refine zu 13 ?_
                         refine zu 15 ?_
                         refine zu 17 ?_
                         refine zt 14 ?_
                         refine zu 16 ?_
                         refine zt 18 ?_
                         refine zo 19 (fun K hK => ?_)
                         refine goes_ Tryd.func42 zk rfl #[.int .i64 (wrap64 ((rd t587 x14_2) - (wrap64 ((rd t581 x15_34) + x16_34)))), .int .i64 a0_0] (by rfl) rfl rfl zm ?_
                         with_reducible refine (saronref00_Turn.calls (wrap64 ((rd t587 x14_2) - (wrap64 ((rd t581 x15_34) + x16_34)))) a0_0 t602 _ A67.out).mono ?_
                         rintro e w' ⟨rfl, ⟨nd, rfl⟩⟩
                         refine ⟨_, rfl, ?_⟩
                         refine hK.out _ _ ⟨vb BK586 0, vb BK586 1, vb BK586 2, vb BK586 3, vb BK578 0, vb BK578 1, vb BK578 2, vb BK578 3, hHeld.2.2.2.2.2.2.2.2.1, hHeld.2.2.2.2.2.2.2.2.2⟩ (fun hHeld => ?_)
                         clear hK K
                         refine zr 146 _ ?_
                         refine zu 20 ?_
                         refine zu 21 ?_
                         refine zu 22 ?_
                         refine zn 23 ?_
                         refine zn 24 ?_
                         refine zn 25 ?_
                         refine zn 26 ?_
                         refine zn 27 ?_
                         refine zn 28 ?_
                         refine zn 29 ?_
                         refine zn 30 ?_
                         refine zn 31 ?_
                         refine zn 32 ?_
                         refine zn 33 ?_
                         refine zn 34 ?_
                         refine zn 35 ?_
                         refine zn 36 ?_
                         refine zu 37 ?_
                         refine zu 38 ?_
                         refine zn 39 ?_
                         refine zn 40 ?_
                         refine zn 41 ?_
                         refine zn 42 ?_
                         refine zn 43 ?_
                         refine zn 44 ?_
                         refine zn 45 ?_
                         refine zn 46 ?_
                         refine zn 47 ?_
                         refine zn 48 ?_
                         refine zn 49 ?_
                         refine zn 50 ?_
                         refine zn 51 ?_
                         refine zn 52 ?_
                         refine zn 53 ?_
                         refine zn 54 ?_
                         refine zn 55 ?_
                         refine zn 56 ?_
                         refine zn 57 ?_
                         refine zu 58 ?_
                         refine zd ?_
                         try go_wp2
                         go_ret
                         exact ⟨zf, zb⟩
                       ·replace c66 := Bool.eq_false_iff.mpr c66
                        subst c66
                        have H1 : (some false) = some r := by rw [if_neg (show ¬ (false = true) by decide)] at H; exact H
                        clear H
                        have H := H1
                        clear H1
                        obtain rfl := Option.some.inj H
                        have p596 : 0 ≤ (x15_34 : Int) := of_decide_eq_true zs
                        have q596 : x15_34 < (t581.length : Int) := of_decide_eq_true zs
                        obtain ⟨ad596, e596, hx596_0⟩ := Kd.at_int (Kd.R_reads' HO_7.out).2.2 x15_34 p596 q596
                        cases e596
                        replace p596 := eq_true p596
                        replace q596 := eq_true q596
                        have p597 : 0 ≤ (x14_2 : Int) := of_decide_eq_true zs
                        have q597 : x14_2 < (t587.length : Int) := of_decide_eq_true zs
                        obtain ⟨ad597, e597, hx597_0⟩ := Kd.at_int (Kd.V_reads' HO_10.out).2.2 x14_2 p597 q597
                        cases e597
                        replace p597 := eq_true p597
                        replace q597 := eq_true q597
                        try go_wp2
                        replace HO_7 := zh (Kd.R_drew HO_7.out)
                        replace HO_10 := zh (Kd.V_drew HO_10.out)
                        replace BK578 := zh (blk_drew BK578.out)
                        replace BK586 := zh (blk_drew BK586.out)
                        replace HB := zh (below_drew1 HB.out)
                        have p599 : 0 ≤ (x14_2 : Int) := of_decide_eq_true zs
                        have q599 : x14_2 < (t587.length : Int) := of_decide_eq_true zs
                        obtain ⟨ad599, e599, hx599_0⟩ := Kd.at_int (Kd.V_reads' HO_10.out).2.2 x14_2 p599 q599
                        obtain rfl : ad597 = ad599 := (by injection e599)
                        replace p599 := eq_true p599
                        replace q599 := eq_true q599
                        refine start_ (n := 59) (S := fun w' => w'.cell? ⟨gb586, 0, none⟩ = some (.int .i64 ((rd_T66 l0_3 t584).f0)) ∧ w'.cell? ⟨gb586, 1, none⟩ = some (.int .i64 ((rd_T66 l0_3 t584).f1)) ∧ w'.cell? ⟨gb586, 2, none⟩ = some (.int .i64 ((rd_T66 l0_3 t584).f2)) ∧ w'.cell? ⟨gb586, 3, none⟩ = some (.int .i64 ((rd_T66 l0_3 t584).f3)) ∧ w'.cell? (ad597.add (x14_2).toNat) = some (.int .i64 (rd t587 x14_2))) (ds := []) (Array.replicate 59 false) zk rfl rfl ⟨vb BK586 0, vb BK586 1, vb BK586 2, vb BK586 3, hx599_0⟩ (fun hHeld => ?_); refine with_tabW saronlaw06_KernelPlays.tab32 saronlaw06_KernelPlays.bits32 (fun HT_ HW_ => ?_)
                        generalize wc.drew = w86 at HO_7 HO_10 BK578 BK586 HB hx599_0 hHeld ⊢
                        refine zu 0 ?_
                        refine zu 1 ?_
                        refine zu 2 ?_
                        refine zu 4 ?_
                        refine zu 6 ?_
                        refine zt 3 ?_
                        refine zt 5 ?_
                        refine zt 7 ?_
                        refine zo 8 (fun K hK => ?_)
                        refine goes_ Tryd.func45 zk rfl #[.int .i64 (rd t587 x14_2), .int .i64 ((rd_T66 l0_3 t584).f1), .int .i64 ((rd_T66 l0_3 t584).f2)] (by rfl) rfl rfl zm ?_
                        with_reducible refine (saronref00_Sits.calls (rd t587 x14_2) ((rd_T66 l0_3 t584).f1) ((rd_T66 l0_3 t584).f2) false _ A65.out).mono ?_
                        rintro e w' ⟨rfl, ⟨nd, rfl⟩⟩
                        refine ⟨_, rfl, ?_⟩
                        refine hK.out _ _ ⟨vb BK586 0, vb BK586 1, vb BK586 2, vb BK586 3, hHeld.2.2.2.2⟩ (fun hHeld => ?_)
                        clear hK K
                        refine zr 135 _ ?_
                        refine zu 9 ?_
                        refine zu 10 ?_
                        refine zn 11 ?_
                        refine zn 12 ?_
                        refine zn 13 ?_
                        refine zn 14 ?_
                        refine zn 15 ?_
                        refine zn 16 ?_
                        refine zn 17 ?_
                        refine zn 18 ?_
                        refine zn 19 ?_
                        refine zn 20 ?_
                        refine zu 21 ?_
                        refine zu 22 ?_
                        refine zn 23 ?_
                        refine zn 24 ?_
                        refine zn 25 ?_
                        refine zn 26 ?_
                        refine zn 27 ?_
                        refine zn 28 ?_
                        refine zn 29 ?_
                        refine zn 30 ?_
                        refine zn 31 ?_
                        refine zn 32 ?_
                        refine zn 33 ?_
                        refine zn 34 ?_
                        refine zn 35 ?_
                        refine zn 36 ?_
                        refine zu 37 ?_
                        refine zu 38 ?_
                        refine zn 39 ?_
                        refine zn 40 ?_
                        refine zn 41 ?_
                        refine zn 42 ?_
                        refine zn 43 ?_
                        refine zn 44 ?_
                        refine zn 45 ?_
                        refine zn 46 ?_
                        refine zn 47 ?_
                        refine zn 48 ?_
                        refine zn 49 ?_
                        refine zn 50 ?_
                        refine zn 51 ?_
                        refine zn 52 ?_
                        refine zn 53 ?_
                        refine zn 54 ?_
                        refine zn 55 ?_
                        refine zn 56 ?_
                        refine zn 57 ?_
                        refine zu 58 ?_
                        refine zd ?_
                        try go_wp2
                        go_ret
                        exact ⟨zf, zb⟩
                     ·rw [if_neg c50] at H
                      exact absurd H (by simp)
                    ·rw [if_neg c49] at H
                     exact absurd H (by simp)
                   ·rw [if_neg c48] at H
                    exact absurd H (by simp)
                  ·rw [if_neg c47] at H
                   exact absurd H (by simp)
             ·rw [if_neg c33] at H
              have c33b0 : decide (x14_2 < (t587.length : Int)) = false := decide_eq_false c33
              clear c33
              replace H := Option.bind_eq_some_iff.mp H
              obtain ⟨t595, A870, H⟩ := H
              replace H : (some t595) = some r := H
              have A87 := zh A870
              clear A870
              obtain rfl := Option.some.inj H
              obtain ⟨Ao88, co88, eo88⟩ := Kd.V_slice HO_10.out
              subst eo88
              go_wp2_with (first | ((with_reducible refine gate_callee (f := 21) rfl ?_); refine goesL_ (some 186) rfl rfl Tryd.func21 zk rfl #[] rfl zm ?_; (with_reducible refine (saronlaw06_works.calls  t595 _ ?side1 A87.out).mono ?_); (case side1 => exact Glob.below HG.out zb); rintro e w89 ⟨rfl, hb⟩; refine ⟨_, rfl, ?_⟩; have n0_ := zh (Kd.R_below (zR HO_7) hb); have n1_ := zh (Kd.V_below (zV HO_10) hb); have n2_ := zh (blk_below (g := gb578) (o := .cells #[.int .i64 a0_0, .int .i64 a0_1, .int .i64 a0_2, .slice (some ad585) l0_3.length c0_3] 24 (0, 0)) (zc BK578) hb); have n3_ := zh (blk_below (g := gb586) (o := .cells #[.int .i64 ((rd_T66 l0_3 t584).f0), .int .i64 ((rd_T66 l0_3 t584).f1), .int .i64 ((rd_T66 l0_3 t584).f2), .int .i64 ((rd_T66 l0_3 t584).f3)] 66 (0, 0)) (zc BK586) hb); have n4_ := zh (below_step zb hb); clear HO_7; clear HO_10; clear BK578; clear BK586; clear HB; have HO_7 := n0_; have HO_10 := n1_; have BK578 := n2_; have BK586 := n3_; have HB := n4_; clear n0_ n1_ n2_ n3_ n4_; (try clear hb); (try clear hb2); (try clear hk); (try clear hi)))
              go_ret
              exact ⟨zf, zb⟩
     ·rw [if_neg c12] at H
      exact absurd H (by simp)
    ·rw [if_neg c11] at H
     exact absurd H (by simp)
   ·rw [if_neg c9] at H
    exact absurd H (by simp)
  ·rw [if_neg c8] at H
   exact absurd H (by simp)
 ·replace c5 := Bool.eq_false_iff.mpr c5
  subst c5
  have H1 : ((saronlaw06_works.f).bind fun t580 => (some t580)) = some r := by rw [if_neg (show ¬ (false = true) by decide)] at H; exact H
  clear H
  have H := H1
  clear H1
  replace H := Option.bind_eq_some_iff.mp H
  obtain ⟨t580, A900, H⟩ := H
  replace H : (some t580) = some r := H
  have A90 := zh A900
  clear A900
  obtain rfl := Option.some.inj H
  go_enter Tryd.func9, Tryd.ntmps9
  go_wp2_with (first | ((with_reducible refine gate_dst (N := 3) rfl ?_); (try (refine gate_guard (by rfl) ?_; dsimp only)); refine box_event ?hg (N := 3) ?hd (cs := #[.int .i64 a0_0, .int .i64 a0_1, .int .i64 a0_2, .slice A0_3 l0_3.length c0_3]) (t := 24) ?hr ?_; (case hd => rfl); (case hg => rfl); (case hr => first | (go_simp; done) | (go_simp; rfl)); intro gb578 hg w91 hbox hb; have n0_ := zh (below_step zb hb); have n1_ := zh (hbox); have n2_ := zh ((by rw [hg]; exact (below_size zb) : w.heap.size ≤ gb578)); have n3_ := zh ((by rw [hg]; exact (below_size zb) : w.heap.size ≤ gb578)); clear HB; have HB := n0_; have BK578 := n1_; have GW578 := n2_; have GE578 := n3_; clear n0_ n1_ n2_ n3_; clear hb hbox hg; have hcz92_0 : w91.cell? ⟨gb578, 0, none⟩ = some (.int .i64 a0_0) := vb BK578 0; have hcz92_1 : w91.cell? ⟨gb578, 1, none⟩ = some (.int .i64 a0_1) := vb BK578 1; have hcz92_2 : w91.cell? ⟨gb578, 2, none⟩ = some (.int .i64 a0_2) := vb BK578 2; have hcz92_3 : w91.cell? ⟨gb578, 3, none⟩ = some (.slice A0_3 l0_3.length c0_3) := vb BK578 3; have hfz92_0 := blk_frozen BK578.out 0; have hfz92_1 := blk_frozen BK578.out 1; have hfz92_2 := blk_frozen BK578.out 2; have hfz92_3 := blk_frozen BK578.out 3) | ((with_reducible refine gate_callee (f := 39) rfl ?_); refine goesL_ (some 20) rfl rfl Tryd.func39 zk rfl #[.agg #[.int .i64 a0_0, .int .i64 a0_1, .int .i64 a0_2, .slice A0_3 l0_3.length c0_3]] rfl zm ?_; (with_reducible refine (saronlaw06_sound.calls k a0_0 a0_1 a0_2 _ _ l0_3 false _ ?side1 ?side2 A4.out).mono ?_); (case side1 => repeat (first | exact (Kd.C_below HR0_3.out HB.out) | (with_reducible refine Kd.C_alloc ?_ _) | (with_reducible refine Kd.C_drewN ?_ _) | (with_reducible refine Kd.C_drew ?_))); (case side2 => exact HC0_3.out); rintro e w93 ⟨rfl, hb⟩; refine ⟨_, rfl, ?_⟩; have n0_ := zh (blk_below (g := gb578) (o := .cells #[.int .i64 a0_0, .int .i64 a0_1, .int .i64 a0_2, .slice A0_3 l0_3.length c0_3] 24 (0, 0)) (zc BK578) hb); have n1_ := zh (below_step zb hb); clear BK578; clear HB; have BK578 := n0_; have HB := n1_; clear n0_ n1_; (try clear hb); (try clear hb2); (try clear hk); (try clear hi)) | ((with_reducible refine gate_callee (f := 21) rfl ?_); refine goesL_ (some 22) rfl rfl Tryd.func21 zk rfl #[] rfl zm ?_; (with_reducible refine (saronlaw06_works.calls  t580 _ ?side1 A90.out).mono ?_); (case side1 => exact Glob.below HG.out zb); rintro e w94 ⟨rfl, hb⟩; refine ⟨_, rfl, ?_⟩; have n0_ := zh (blk_below (g := gb578) (o := .cells #[.int .i64 a0_0, .int .i64 a0_1, .int .i64 a0_2, .slice A0_3 l0_3.length c0_3] 24 (0, 0)) (zc BK578) hb); have n1_ := zh (below_step zb hb); clear BK578; clear HB; have BK578 := n0_; have HB := n1_; clear n0_ n1_; (try clear hb); (try clear hb2); (try clear hk); (try clear hi)))
  go_ret
  exact ⟨zf, zb⟩
end Go.Proofs.YtagkfkdoibnhfaaDoor.H
end
section
namespace Go.Proofs.YtagkfkdoibnhfaaDoor.kernelPlays
open Go.ChangeShapes Go.WideShapes Go.ChangeAt Go.RowKit Go.Proofs.YtagkfkdoibnhfaaDoorW.PrintWords Go.Proofs.YtagkfkdoibnhfaaDoor.H Go.Proofs.YtagkfkdoibnhfaaDoor.K
set_option linter.unusedVariables false
theorem own : ownKnob Tryd.prog.godebug = none := by kernel_rfl
theorem laidOut : laidOutB Tryd.prog = true := by kernel_rfl
theorem door_met (os : Os) (args : Array Value) : laidMetH Tryd.prog laid1 ((World.doorLaid Tryd.prog 600 os).forCall (fun _ _ => 0) ⟨#[], args, []⟩).memory :=
 laidMetH_of_parts3 (fuel := 8) (laidMet_of_run' 8 zk zk) zk zk
set_option maxRecDepth 100000 in
set_option maxHeartbeats 2000000 in
theorem lifted (os : Os) (started : os.Started) (H : Type) (enc : TypeId × Value → H) :
  ReturnsInHanded {} Tryd.checked os 9 .any (fun w args => (Rows.kernelPlaysSpec.pre enc Tryd.prog Tryd.f9 [] false w args ∧ laidMetH Tryd.prog laid1 w) ∧ sizedMet enc Tryd.prog Tryd.f9 (OpenSpec.ofChange Rows.kernelPlaysSpec) false w args)
   (Rows.kernelPlaysSpec.post enc Tryd.prog Tryd.f9 false true false false) := by
 refine returnsInHanded_of_change_and (C := Tryd.checked) (X := fun w _ => laidMetH Tryd.prog laid1 w) (fun _ _ _ hh h => h.of_heap hh) own started zk Tryd.func9
  (ChangeSpec.witness_shaped (enc := enc) (C := Tryd.checked) (os := os) (X := fun w _ => laidMetH Tryd.prog laid1 w) false (World.doorLaid Tryd.prog 600 os) #[.agg #[.int .i64 0, .int .i64 0, .int .i64 0, .slice none 0 0], .slice none 0 0, .int .i64 0] 8 rfl (World.shaped_of_RefB zk zk) zk zk zk (door_met os _)) ?_
 intro W base args ds gs before hval0 hW _ _ hL _
 have hval : ∀ (j : Nat) t v, Tryd.f9.params[j]? = some t → args[j]? = some v → Value.okWide Tryd.prog W .any base t v := hval0
 have hW' := hW
 obtain ⟨p, q, hA0, hV, rfl, hfz, hnd⟩ := hW
 have hA : DataW.TrodAll enc Tryd.prog W 0 (fun _ => true) true Tryd.f9.params.toList args.toList ds p := hA0
 rw [Tryd.params9] at hA hval
 obtain ⟨v0, vs0, d0, ds0, p0, q0, hargs, rfl, rfl, h0, r0⟩ := trodAll_cons hA
 obtain ⟨v1, vs1, d1, ds1, p1, q1, rfl, rfl, rfl, h1, r1⟩ := trodAll_cons r0
 obtain ⟨v2, vs2, d2, ds2, p2, q2, rfl, rfl, rfl, h2, r2⟩ := trodAll_cons r1
 obtain ⟨rfl, rfl, rfl⟩ := trodAll_nil r2
 obtain rfl : args = #[v0, v1, v2] := by cases args; simp_all
 obtain ⟨rfl, rfl⟩ := trodVars_none hV
 have k0 := h0
 have lt0 : ∀ x ∈ p0, x.block < W.heap.size := by obtain ⟨m, hm⟩ := k0; exact DataW.trod_lt m _ _ _ hm
 obtain ⟨T0, O0, L0, A0, R0, c0, rfl, hc0, hC0, iT0, iO0, iL0, sR0, iR0⟩ := arg_scale (hval 0 24 v0 rfl rfl) h0
 have k1 := h1
 have lt1 : ∀ x ∈ p1, x.block < W.heap.size := by obtain ⟨m, hm⟩ := k1; exact DataW.trod_lt m _ _ _ hm
 obtain ⟨A1, l1, c1, rfl, hc1, hC1, s1, i1⟩ := arg_ints (hval 1 25 v1 rfl rfl) h1
 obtain ⟨a2, rfl, rfl, rfl, w2⟩ := open_int Tryd.underlying3 (hval 2 3 v2 rfl rfl) h2
 clear hA0 hval0
 have hG := glob_of_laid hL
 refine (saronlaw06_KernelPlays.calls (2 * R0.length + 4000) T0 O0 L0 A0 c0 R0 A1 c1 l1 a2 true W hC0 hc0 hC1 hc1 hG (K.O.plays_law T0 O0 L0 R0 l1 a2 sR0 s1 _ (Nat.le_refl _))).mono fun e W' ⟨he, bel⟩ => ?_
 subst he
 exact ⟨_, rfl, _, _, _, [], _, [], hW', trodAll_mk1 (shut_bool Tryd.underlying4 _), (trodAll_cons_mk (Below.trod laidOut zk (of_decide_eq_true zk) k0 bel lt0) (trodAll_cons_mk (Below.trod laidOut zk (of_decide_eq_true zk) k1 bel lt1) (trodAll_cons_mk (shut_int Tryd.underlying3 w2) trodAll_mk0))), rfl, bel.frame _, fun h => by cases h⟩
theorem over : Rows.kernelPlaysRow.holds Tryd.pinned (OpenSpec.ofChange Rows.kernelPlaysSpec) :=
 OpenClaim.holds_of_wide 9 Tryd.f9 rfl rfl rfl rfl rfl rfl rfl ⟨rfl, rfl, rfl, rfl, rfl⟩ rfl rfl rfl rfl rfl zk Tryd.func9 zk
  (of_decide_eq_true zk) (by unfold Func.isWrapper; first | (rw [if_pos (by decide +kernel)]; kernel_rfl) | (rw [if_neg (by decide +kernel)]; exact ⟨rfl, rfl⟩))
  (fun os started H enc _ => lifted os started H enc)
theorem proved : Rows.KernelPlaysCardSaid :=
 Claim7.holds_tied_plain_at .later [] [.funcs] true (true, "1546f209dbcbef264cbb20aea537f6d5569935ba401e115858a8843598e79524") false
  over (fun _ h => by cases h) zk (fun _ h => by cases h) kernelPlays_row_tie rfl ⟨rfl, rfl⟩ zk rfl
  (fun f fn hf hfn => by
   obtain rfl : f = 9 := Option.some.inj ((show Tryd.prog.funcNamed "saron/saronlaw06.KernelPlays" = some 9 by kernel_rfl).symm.trans hf) |>.symm
   obtain rfl : fn = Tryd.f9 := (Option.some.inj (Tryd.func9.symm.trans hfn)).symm
   exact ⟨by kernel_rfl, fun j t ht => by
    rw [Tryd.params9] at ht
    have hm : t ∈ [24, 25, 3] := by simpa using Array.mem_of_getElem? ht
    have hall : ([24, 25, 3].all fun u => !Tryd.prog.wantsStandIn u) = true := by kernel_rfl
    exact (show Tryd.prog.wantsStandIn t = false by simpa using List.all_eq_true.1 hall t hm)⟩)
  zk
end Go.Proofs.YtagkfkdoibnhfaaDoor.kernelPlays
namespace Go.Proofs.YtagkfkdoibnhfaaDoor
theorem kernelPlays_card : Rows.KernelPlaysCardSaid := kernelPlays.proved
end Go.Proofs.YtagkfkdoibnhfaaDoor
end
