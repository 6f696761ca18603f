/- KernelDoubled: for every scale, any numbers that choose the kernel and any number that chooses the register the law returns true, and each argument reads afterwards as it read before. Condition: when the call begins the package's table of rules reads as the program's text lays it; the card ties that to the text. -/
import Derived.Below
import Derived.Carry
import Derived.LaidMore
import Derived.OpenShut
import Derived.ProofKit
import Derived.SevenTiedAt
import Derived.SizedLaws
import Derived.Stop.Joined
import Derived.WalkKit
import Derived.Test.YtagkfkdoibnhfaaDoorCards
import Derived.Test.YtagkfkdoibnhfaaDoorTie
import Derived.Test.YtagkfkdoibnhfaaDoorZB2
import Derived.Test.YtagkfkdoibnhfaaDoorZB4
import Derived.Test.YtagkfkdoibnhfaaDoorZDbl1
set_option linter.all false
section
namespace Go.Proofs.YtagkfkdoibnhfaaDoor.H
open Go.RowKit Go.Proofs.YtagkfkdoibnhfaaDoorW.PrintWords Go.Proofs.YtagkfkdoibnhfaaDoorW.PrintLast Go.Proofs.YtagkfkdoibnhfaaDoorW.PrintMore
attribute [local go_sem] max2_int min2_int max_two min_two max_three min_three max_four min_four   -- for this text's walks alone
set_option linter.unusedVariables false
set_option linter.unusedSimpArgs false
open Go.Proofs.YtagkfkdoibnhfaaDoor.K
def saronlaw06_KernelDoubled.T3 : Bool × List (List Nat × List Nat) := (true, [([], []), ([], []), ([0, 1], [0, 1]), ([], []), ([3], [3]), ([], []), ([], []), ([6], [6]), ([7], [7]), ([5, 8, 2], [5, 8]), ([4, 9], [4, 9]), ([10], [10]), ([], []), ([2, 9, 0, 1, 2, 12], [2]), ([12, 11, 13, 0, 1, 2, 3, 4, 5, 6, 7, 8, 9, 10, 11, 12, 13], [11, 12])])
def saronlaw06_KernelDoubled.B3 : List Nat := [0, 0, 3, 0, 8, 0, 0, 64, 192, 487, 1023, 2047, 0, 5095, 16383]
theorem saronlaw06_KernelDoubled.tab3 : rtab .any (opsOf Tryd.f10 3) = saronlaw06_KernelDoubled.T3 := by kernel_rfl
theorem saronlaw06_KernelDoubled.bits3 : waitsOk saronlaw06_KernelDoubled.T3.2 saronlaw06_KernelDoubled.B3 = true := by kernel_rfl
def saronlaw06_KernelDoubled.T19 : Bool × List (List Nat × List Nat) := (true, [([], []), ([0], [0]), ([1], [1]), ([2], [2]), ([3], [3]), ([3], [3]), ([5, 3], [3, 5]), ([4, 6, 3], [3, 4, 6]), ([7, 3], [3, 7]), ([3], [3]), ([3], [3]), ([9, 10, 3], [3, 9, 10]), ([11, 3], [3, 11]), ([8, 12, 3], [3, 8, 12]), ([3, 13], [3, 13]), ([14, 3], [14]), ([15], [15]), ([15], [15]), ([17, 15], [15, 17]), ([16, 18, 15], [15, 16, 18]), ([19, 15], [15, 19]), ([15], [15]), ([15], [15]), ([21, 22, 15], [15, 21, 22]), ([23, 15], [15, 23]), ([20, 24, 15], [15, 20, 24]), ([15, 25], [15, 25]), ([26, 15], [26]), ([27], [27]), ([27], [27]), ([29, 27], [27, 29]), ([30, 27], [27, 30]), ([28, 31, 27], [27, 28, 31]), ([32, 27], [27, 32]), ([27], [27]), ([27], [27]), ([34, 35, 27], [27, 34, 35]), ([36, 27], [27, 36]), ([33, 37, 27], [27, 33, 37]), ([27, 38], [27, 38]), ([39, 27], [39]), ([40], [40]), ([40], [40]), ([40], [40]), ([43, 40], [40, 43]), ([42, 44, 40], [40, 42, 44]), ([45, 40], [40, 45]), ([40], [40]), ([47, 40], [40, 47]), ([46, 48, 40], [40, 46, 48]), ([41, 49, 40], [40, 41, 49]), ([50, 40], [40, 50]), ([40], [40]), ([40], [40]), ([52, 53, 40], [40, 52, 53]), ([54, 40], [40, 54]), ([51, 55, 40], [40, 51, 55]), ([40, 56], [40, 56]), ([57, 40], [57]), ([58], [58]), ([58], [58]), ([58], [58]), ([61, 58], [58, 61]), ([60, 62, 58], [58, 60, 62]), ([63, 58], [58, 63]), ([58], [58]), ([65, 58], [58, 65]), ([64, 66, 58], [58, 64, 66]), ([67, 58], [58, 67]), ([59, 68, 58], [58, 59, 68]), ([69, 58], [58, 69]), ([58], [58]), ([58], [58]), ([71, 72, 58], [58, 71, 72]), ([73, 58], [58, 73]), ([70, 74, 58], [58, 70, 74]), ([58, 75], [58, 75])])
def saronlaw06_KernelDoubled.B19 : List Nat := [0, 1, 3, 7, 15, 15, 47, 127, 255, 15, 15, 1551, 3599, 8191, 16383, 32767, 65535, 65535, 196607, 524287, 1048575, 65535, 65535, 6356991, 14745599, 33554431, 67108863, 134217727, 268435455, 268435455, 805306367, 1879048191, 4294967295, 8589934591, 268435455, 268435455, 51808043007, 120527519743, 274877906943, 549755813887, 1099511627775, 2199023255551, 2199023255551, 2199023255551, 10995116277759, 32985348833279, 68169720922111, 2199023255551, 142936511610879, 560750930165759, 1125899906842623, 2251799813685247, 2199023255551, 2199023255551, 13512997905367039, 31527396414849023, 72057594037927935, 144115188075855871, 288230376151711743, 576460752303423487, 576460752303423487, 576460752303423487, 2882303761517117439, 8646911284551352319, 17870283321406128127, 576460752303423487, 37469948899722526719, 146997491837372989439, 294571444427049402367, 590295810358705651711, 1180591620717411303423, 576460752303423487, 576460752303423487, 7084126185056771244031, 16528859150796061671423, 37778931862957161709567, 75557863725914323419135]
theorem saronlaw06_KernelDoubled.tab19 : rtab .any (opsOf Tryd.f10 19) = saronlaw06_KernelDoubled.T19 := by kernel_rfl
theorem saronlaw06_KernelDoubled.bits19 : waitsOk saronlaw06_KernelDoubled.T19.2 saronlaw06_KernelDoubled.B19 = true := by kernel_rfl
set_option maxHeartbeats 8000000 in
set_option maxRecDepth 100000 in
theorem saronlaw06_KernelDoubled.calls (k : Nat) (a0_0 : Int) (a0_1 : Int) (a0_2 : Int) (A0_3 : Option Addr) (c0_3 : Nat) (l0_3 : List (S66)) (A1 : Option Addr) (c1 : Nat) (l1 : List Int) (a2 : Int) (r : Bool) (w : World) (hr0_3 : Kd.C k66 w A0_3 l0_3.length l0_3) (hc0_3 : l0_3.length ≤ c0_3) (hr1 : Kd.C (Kd.int .i64) w A1 l1.length l1) (hc1 : l1.length ≤ c1) (hG : Glob w) (hrt : r = true) (h : saronlaw06_KernelDoubled.f k a0_0 a0_1 a0_2 l0_3 l1 a2 = some r) :
  Calls Tryd.prog 10 #[.agg #[.int .i64 a0_0, .int .i64 a0_1, .int .i64 a0_2, .slice A0_3 l0_3.length c0_3], .slice A1 l1.length c1, .int .i64 a2] w fun e w' => e = .returned (.bool r) ∧ Below w.heap.size w w' := by
 have HRT := zh hrt
 clear hrt
 have hu24 := Tryd.underlying24
 have hu66 := Tryd.underlying66
 have HG := zh hG
 clear hG
 have HR0_3 := zh hr0_3
 have HC0_3 := zh hc0_3
 clear hr0_3 hc0_3
 have HR1 := zh hr1
 have HC1 := zh hc1
 clear hr1 hc1
 have HB := zh (Below.refl w.heap.size w)
 have H : ((saronlaw06_sound.f k a0_0 a0_1 a0_2 l0_3).bind fun t610 => (if t610 = true then ((saronlaw06_truly.f k a0_0 a0_1 a0_2 l0_3 l1).bind fun t612 => ((saronref00_Turn.f a2 (l0_3.length : Int)).bind fun t615 => (if 0 ≤ t615 then (if t615 < (l0_3.length : Int) then (saronlaw06_KernelDoubled.l0 k t612 0 a0_0 a0_1 a0_2 l0_3 ((rd_T66 l0_3 t615).f0) ((rd_T66 l0_3 t615).f1) ((rd_T66 l0_3 t615).f2) ((rd_T66 l0_3 t615).f3) a0_0 a0_1 a0_2 ([] : List (S66))) else (none)) else (none)))) else ((saronlaw06_works.f).bind fun t611 => (some t611)))) = some r := h
 clear h
 replace H := Option.bind_eq_some_iff.mp H
 obtain ⟨t610, A40, H⟩ := H
 replace H : (if t610 = true then ((saronlaw06_truly.f k a0_0 a0_1 a0_2 l0_3 l1).bind fun t612 => ((saronref00_Turn.f a2 (l0_3.length : Int)).bind fun t615 => (if 0 ≤ t615 then (if t615 < (l0_3.length : Int) then (saronlaw06_KernelDoubled.l0 k t612 0 a0_0 a0_1 a0_2 l0_3 ((rd_T66 l0_3 t615).f0) ((rd_T66 l0_3 t615).f1) ((rd_T66 l0_3 t615).f2) ((rd_T66 l0_3 t615).f3) a0_0 a0_1 a0_2 ([] : List (S66))) else (none)) else (none)))) else ((saronlaw06_works.f).bind fun t611 => (some t611))) = some r := H
 have A4 := zh A40
 clear A40
 by_cases c5 : t610 = true
 ·subst c5
  have H1 : ((saronlaw06_truly.f k a0_0 a0_1 a0_2 l0_3 l1).bind fun t612 => ((saronref00_Turn.f a2 (l0_3.length : Int)).bind fun t615 => (if 0 ≤ t615 then (if t615 < (l0_3.length : Int) then (saronlaw06_KernelDoubled.l0 k t612 0 a0_0 a0_1 a0_2 l0_3 ((rd_T66 l0_3 t615).f0) ((rd_T66 l0_3 t615).f1) ((rd_T66 l0_3 t615).f2) ((rd_T66 l0_3 t615).f3) a0_0 a0_1 a0_2 ([] : List (S66))) else (none)) else (none)))) = some r := by rw [if_pos rfl] at H; exact H
  clear H
  have H := H1
  clear H1
  replace H := Option.bind_eq_some_iff.mp H
  obtain ⟨t612, A60, H⟩ := H
  replace H : ((saronref00_Turn.f a2 (l0_3.length : Int)).bind fun t615 => (if 0 ≤ t615 then (if t615 < (l0_3.length : Int) then (saronlaw06_KernelDoubled.l0 k t612 0 a0_0 a0_1 a0_2 l0_3 ((rd_T66 l0_3 t615).f0) ((rd_T66 l0_3 t615).f1) ((rd_T66 l0_3 t615).f2) ((rd_T66 l0_3 t615).f3) a0_0 a0_1 a0_2 ([] : List (S66))) else (none)) else (none))) = some r := H
  have A6 := zh A60
  clear A60
  replace H := Option.bind_eq_some_iff.mp H
  obtain ⟨t615, A70, H⟩ := H
  replace H : (if 0 ≤ t615 then (if t615 < (l0_3.length : Int) then (saronlaw06_KernelDoubled.l0 k t612 0 a0_0 a0_1 a0_2 l0_3 ((rd_T66 l0_3 t615).f0) ((rd_T66 l0_3 t615).f1) ((rd_T66 l0_3 t615).f2) ((rd_T66 l0_3 t615).f3) a0_0 a0_1 a0_2 ([] : List (S66))) else (none)) else (none)) = some r := H
  have A7 := zh A70
  clear A70
  by_cases c8 : 0 ≤ t615
  ·rw [if_pos c8] at H
   have c8b0 : decide (0 ≤ t615) = true := decide_eq_true c8
   clear c8
   by_cases c9 : t615 < (l0_3.length : Int)
   ·rw [if_pos c9] at H
    have c9b0 : decide (t615 < (l0_3.length : Int)) = true := decide_eq_true c9
    clear c9
    have H' := zh H
    clear H
    go_enter Tryd.func10, Tryd.ntmps10
    try go_wp2_with (first | ((with_reducible refine gate_dst (N := 3) rfl ?_); (try (refine gate_guard (by rfl) ?_; dsimp only)); refine box_event ?hg (N := 3) ?hd (cs := #[.int .i64 a0_0, .int .i64 a0_1, .int .i64 a0_2, .slice A0_3 l0_3.length c0_3]) (t := 24) ?hr ?_; (case hd => rfl); (case hg => rfl); (case hr => first | (go_simp; done) | (go_simp; rfl)); intro gb609 hg w10 hbox hb; have n0_ := zh (below_step zb hb); have n1_ := zh (hbox); have n2_ := zh ((by rw [hg]; exact (below_size zb) : w.heap.size ≤ gb609)); have n3_ := zh ((by rw [hg]; exact (below_size zb) : w.heap.size ≤ gb609)); clear HB; have HB := n0_; have BK609 := n1_; have GW609 := n2_; have GE609 := n3_; clear n0_ n1_ n2_ n3_; clear hb hbox hg; have hcz11_0 : w10.cell? ⟨gb609, 0, none⟩ = some (.int .i64 a0_0) := vb BK609 0; have hcz11_1 : w10.cell? ⟨gb609, 1, none⟩ = some (.int .i64 a0_1) := vb BK609 1; have hcz11_2 : w10.cell? ⟨gb609, 2, none⟩ = some (.int .i64 a0_2) := vb BK609 2; have hcz11_3 : w10.cell? ⟨gb609, 3, none⟩ = some (.slice A0_3 l0_3.length c0_3) := vb BK609 3; have hfz11_0 := blk_frozen BK609.out 0; have hfz11_1 := blk_frozen BK609.out 1; have hfz11_2 := blk_frozen BK609.out 2; have hfz11_3 := blk_frozen BK609.out 3) | ((with_reducible refine gate_callee (f := 39) rfl ?_); refine goesL_ (some 21) rfl rfl Tryd.func39 zk rfl #[.agg #[.int .i64 a0_0, .int .i64 a0_1, .int .i64 a0_2, .slice A0_3 l0_3.length c0_3]] rfl zm ?_; (with_reducible refine (saronlaw06_sound.calls k a0_0 a0_1 a0_2 _ _ l0_3 true _ ?side1 ?side2 A4.out).mono ?_); (case side1 => repeat (first | exact (Kd.C_below HR0_3.out HB.out) | (with_reducible refine Kd.C_alloc ?_ _) | (with_reducible refine Kd.C_drewN ?_ _) | (with_reducible refine Kd.C_drew ?_))); (case side2 => exact HC0_3.out); rintro e w12 ⟨rfl, hb⟩; refine ⟨_, rfl, ?_⟩; have n0_ := zh (blk_below (g := gb609) (o := .cells #[.int .i64 a0_0, .int .i64 a0_1, .int .i64 a0_2, .slice A0_3 l0_3.length c0_3] 24 (0, 0)) (zc BK609) hb); have n1_ := zh (below_step zb hb); clear BK609; clear HB; have BK609 := n0_; have HB := n1_; clear n0_ n1_; (try clear hb); (try clear hb2); (try clear hk); (try clear hi)))
    replace BK609 := zh (blk_drew BK609.out)
    replace HB := zh (below_drew1 HB.out)
    have p616 : 0 ≤ (t615 : Int) := of_decide_eq_true zs
    have q616 : t615 < (l0_3.length : Int) := of_decide_eq_true zs
    obtain ⟨ad616, e616, hx616_0, hx616_1, hx616_2, hx616_3⟩ := at_T66 HR0_3.out t615 p616 q616
    have hw616_3 := hx616_3
    have hw616_2 := hx616_2
    have hw616_1 := hx616_1
    have hw616_0 := hx616_0
    cases e616
    replace hx616_0 := ve HB.out hx616_0
    replace hx616_1 := ve HB.out hx616_1
    replace hx616_2 := ve HB.out hx616_2
    replace hx616_3 := ve HB.out hx616_3
    replace p616 := eq_true p616
    replace q616 := eq_true q616
    refine start_ (n := 15) (S := fun w' => w'.cell? ⟨gb609, 0, none⟩ = some (.int .i64 a0_0) ∧ w'.cell? ⟨gb609, 1, none⟩ = some (.int .i64 a0_1) ∧ w'.cell? ⟨gb609, 2, none⟩ = some (.int .i64 a0_2) ∧ w'.cell? ⟨gb609, 3, none⟩ = some (.slice (some ad616) l0_3.length c0_3) ∧ w'.cell? (ad616.add ((t615).toNat * 4)) = some (.int .i64 ((rd_T66 l0_3 t615).f0)) ∧ w'.cell? ⟨(ad616.add ((t615).toNat * 4)).block, (ad616.add ((t615).toNat * 4)).off + 1, none⟩ = some (.int .i64 ((rd_T66 l0_3 t615).f1)) ∧ w'.cell? ⟨(ad616.add ((t615).toNat * 4)).block, (ad616.add ((t615).toNat * 4)).off + 2, none⟩ = some (.int .i64 ((rd_T66 l0_3 t615).f2)) ∧ w'.cell? ⟨(ad616.add ((t615).toNat * 4)).block, (ad616.add ((t615).toNat * 4)).off + 3, none⟩ = some (.int .i64 ((rd_T66 l0_3 t615).f3))) (ds := []) (Array.replicate 15 false) zk rfl rfl ⟨vb BK609 0, vb BK609 1, vb BK609 2, vb BK609 3, (ve HB.out hw616_0 :), (ve HB.out hw616_1 :), (ve HB.out hw616_2 :), (ve HB.out hw616_3 :)⟩ (fun hHeld => ?_); refine with_tabW saronlaw06_KernelDoubled.tab3 saronlaw06_KernelDoubled.bits3 (fun HT_ HW_ => ?_)
    generalize w12.drew = w13 at BK609 HB hx616_0 hx616_1 hx616_2 hx616_3 hHeld ⊢
    refine zu 1 ?_
    refine zu 3 ?_
    refine zu 5 ?_
    refine zu 6 ?_
    refine zt 0 ?_
    refine zt 4 ?_
    refine zt 7 ?_
    refine zu 8 ?_
    refine join_ (σ := Value × Nat) 2 #[true, true, true, true, true, true, true, true, true, true, true, true, true, false, false] (fun s_ => [(26, s_.1), (33, .int .i64 t615), (8, .pointer (some ⟨s_.2, 0, none⟩)), (34, .pointer (some (ad616.add ((t615).toNat * 4)))), (35, .agg #[.int .i64 ((rd_T66 l0_3 t615).f0), .int .i64 ((rd_T66 l0_3 t615).f1), .int .i64 ((rd_T66 l0_3 t615).f2), .int .i64 ((rd_T66 l0_3 t615).f3)])]) (fun s_ w' => (w'.cell? ⟨gb609, 0, none⟩ = some (.int .i64 a0_0) ∧ w'.cell? ⟨gb609, 1, none⟩ = some (.int .i64 a0_1) ∧ w'.cell? ⟨gb609, 2, none⟩ = some (.int .i64 a0_2) ∧ w'.cell? ⟨gb609, 3, none⟩ = some (.slice (some ad616) l0_3.length c0_3) ∧ w'.cell? (ad616.add ((t615).toNat * 4)) = some (.int .i64 ((rd_T66 l0_3 t615).f0)) ∧ w'.cell? ⟨(ad616.add ((t615).toNat * 4)).block, (ad616.add ((t615).toNat * 4)).off + 1, none⟩ = some (.int .i64 ((rd_T66 l0_3 t615).f1)) ∧ w'.cell? ⟨(ad616.add ((t615).toNat * 4)).block, (ad616.add ((t615).toNat * 4)).off + 2, none⟩ = some (.int .i64 ((rd_T66 l0_3 t615).f2)) ∧ w'.cell? ⟨(ad616.add ((t615).toNat * 4)).block, (ad616.add ((t615).toNat * 4)).off + 3, none⟩ = some (.int .i64 ((rd_T66 l0_3 t615).f3))) ∧ (Kd.R (Kd.int .i64) 3 w' w.heap.size (fun _ => True) s_.1 t612) ∧ (w'.heap[gb609]? = some (.cells #[.int .i64 a0_0, .int .i64 a0_1, .int .i64 a0_2, .slice (some ad616) l0_3.length c0_3] 24 (0, 0))) ∧ (w'.heap[s_.2]? = some (.cells #[.int .i64 0, .int .i64 0, .int .i64 0, .int .i64 0] 66 (0, 0))) ∧ (w.heap.size ≤ s_.2) ∧ (w.heap.size ≤ s_.2) ∧ (gb609 ≠ s_.2) ∧ (s_.2 ≠ gb609) ∧ (Below w.heap.size w w')) ?_ ?_
    rotate_left
    ·intro hCont
     refine two_ (i := 2) (j := 12) (Ni := some 26) (Nj := some 8) #[true, true, true, true, true, true, true, true, true, false, false, false, false, false, false] #[true, true, false, true, true, true, true, true, true, false, false, false, true, false, false] rfl rfl rfl rfl (two_of HT_.out zk) (by decide) (by decide) (fun K hK => ?_) (fun K hK => ?_)
     ·skip
      refine goes_ Tryd.func40 zk rfl #[.agg #[.int .i64 a0_0, .int .i64 a0_1, .int .i64 a0_2, .slice (some ad616) l0_3.length c0_3], .slice A1 l1.length c1] (by rfl) rfl rfl zm ?_
      with_reducible refine (saronlaw06_truly.calls k a0_0 a0_1 a0_2 _ _ l0_3 _ _ l1 t612 _ ?side1 ?side2 ?side3 ?side4 A6.out).mono ?_
      (case side1 => repeat (first | exact (Kd.C_below HR0_3.out HB.out) | (with_reducible refine Kd.C_alloc ?_ _) | (with_reducible refine Kd.C_drewN ?_ _) | (with_reducible refine Kd.C_drew ?_)))
      (case side2 => exact HC0_3.out)
      (case side3 => repeat (first | exact (Kd.C_below HR1.out HB.out) | (with_reducible refine Kd.C_alloc ?_ _) | (with_reducible refine Kd.C_drewN ?_ _) | (with_reducible refine Kd.C_drew ?_)))
      (case side4 => exact HC1.out)
      rintro e w14 ⟨v613, rfl, ho0, hb⟩
      refine ⟨_, rfl, ?_⟩
      have HO614 := zh (Kd.R_lower ho0 (below_size zb))
      replace BK609 := zh (blk_below (g := gb609) (o := .cells #[.int .i64 a0_0, .int .i64 a0_1, .int .i64 a0_2, .slice (some ad616) l0_3.length c0_3] 24 (0, 0)) (zc BK609) hb)
      replace HB := zh (below_step zb hb)
      (try clear hb)
      (try clear hb2)
      (try clear hk)
      (try clear hi)
      (try clear ho0)
      refine hK.out _ _ ⟨vb BK609 0, vb BK609 1, vb BK609 2, vb BK609 3, (ve HB.out hw616_0 :), (ve HB.out hw616_1 :), (ve HB.out hw616_2 :), (ve HB.out hw616_3 :)⟩ (fun hHeld => ?_)
      clear hK K
      refine zr 26 _ ?_
      refine two_ (i := 9) (j := 12) (Ni := some 33) (Nj := some 8) #[true, true, true, true, true, true, true, true, true, true, false, false, false, false, false] #[true, true, true, true, true, true, true, true, true, false, false, false, true, false, false] rfl rfl rfl rfl (two_of HT_.out zk) (by decide) (by decide) (fun K hK => ?_) (fun K hK => ?_)
      ·skip
       refine goes_ Tryd.func42 zk rfl #[.int .i64 a2, .int .i64 (l0_3.length : Int)] (by rfl) rfl rfl zm ?_
       with_reducible refine (saronref00_Turn.calls a2 (l0_3.length : Int) t615 _ A7.out).mono ?_
       rintro e w' ⟨rfl, ⟨nd, rfl⟩⟩
       refine ⟨_, rfl, ?_⟩
       refine hK.out _ _ ⟨vb BK609 0, vb BK609 1, vb BK609 2, vb BK609 3, (ve HB.out hw616_0 :), (ve HB.out hw616_1 :), (ve HB.out hw616_2 :), (ve HB.out hw616_3 :)⟩ (fun hHeld => ?_)
       clear hK K
       refine zr 33 _ ?_
       refine zu 10 ?_
       refine zt 11 ?_
       refine zo 12 (fun K hK => ?_)
       refine box_step ?hg (N := 8) ?hd (cs := #[.int .i64 0, .int .i64 0, .int .i64 0, .int .i64 0]) (t := 66) ?hr ?_; (case hd => rfl); (case hg => rfl); (case hr => first | (go_simp; done) | (go_simp; rfl))
       intro gb617 hg w15 hbox hb
       replace HO614 := zh (Kd.R_below (zR HO614) hb)
       have BK617 := zh (hbox)
       have GW617 := zh ((by rw [hg]; exact (below_size zb) : w.heap.size ≤ gb617))
       have GE617 := zh ((by rw [hg]; exact (below_size zb) : w.heap.size ≤ gb617))
       replace HB := zh (below_step zb hb)
       have NB609_617 := zh ((by rw [hg]; exact Nat.ne_of_lt (blk_lt (g := gb609) (o := .cells #[.int .i64 a0_0, .int .i64 a0_1, .int .i64 a0_2, .slice (some ad616) l0_3.length c0_3] 24 (0, 0)) (zc BK609)) : gb609 ≠ gb617))
       have NB617_609 := zh ((by rw [hg]; exact Nat.ne_of_gt (blk_lt (g := gb609) (o := .cells #[.int .i64 a0_0, .int .i64 a0_1, .int .i64 a0_2, .slice (some ad616) l0_3.length c0_3] 24 (0, 0)) (zc BK609)) : gb617 ≠ gb609))
       replace BK609 := zh (blk_below (g := gb609) (o := .cells #[.int .i64 a0_0, .int .i64 a0_1, .int .i64 a0_2, .slice (some ad616) l0_3.length c0_3] 24 (0, 0)) (zc BK609) hb)
       clear hb hbox hg
       refine hK.out _ _ ⟨vb BK609 0, vb BK609 1, vb BK609 2, vb BK609 3, (ve HB.out hw616_0 :), (ve HB.out hw616_1 :), (ve HB.out hw616_2 :), (ve HB.out hw616_3 :)⟩ (fun hHeld => ?_)
       clear hK K
       refine zr 8 _ ?_
       exact norm_ dDb3 (hCont (v613, gb617) _ ⟨hHeld, (zR HO614), (zc BK609), (zc BK617), GW617.out, GE617.out, NB609_617.out, NB617_609.out, zb⟩)
      ·skip
       refine box_step ?hg (N := 8) ?hd (cs := #[.int .i64 0, .int .i64 0, .int .i64 0, .int .i64 0]) (t := 66) ?hr ?_; (case hd => rfl); (case hg => rfl); (case hr => first | (go_simp; done) | (go_simp; rfl))
       intro gb617 hg w15 hbox hb
       replace HO614 := zh (Kd.R_below (zR HO614) hb)
       have BK617 := zh (hbox)
       have GW617 := zh ((by rw [hg]; exact (below_size zb) : w.heap.size ≤ gb617))
       have GE617 := zh ((by rw [hg]; exact (below_size zb) : w.heap.size ≤ gb617))
       replace HB := zh (below_step zb hb)
       have NB609_617 := zh ((by rw [hg]; exact Nat.ne_of_lt (blk_lt (g := gb609) (o := .cells #[.int .i64 a0_0, .int .i64 a0_1, .int .i64 a0_2, .slice (some ad616) l0_3.length c0_3] 24 (0, 0)) (zc BK609)) : gb609 ≠ gb617))
       have NB617_609 := zh ((by rw [hg]; exact Nat.ne_of_gt (blk_lt (g := gb609) (o := .cells #[.int .i64 a0_0, .int .i64 a0_1, .int .i64 a0_2, .slice (some ad616) l0_3.length c0_3] 24 (0, 0)) (zc BK609)) : gb617 ≠ gb609))
       replace BK609 := zh (blk_below (g := gb609) (o := .cells #[.int .i64 a0_0, .int .i64 a0_1, .int .i64 a0_2, .slice (some ad616) l0_3.length c0_3] 24 (0, 0)) (zc BK609) hb)
       clear hb hbox hg
       refine hK.out _ _ ⟨vb BK609 0, vb BK609 1, vb BK609 2, vb BK609 3, (ve HB.out hw616_0 :), (ve HB.out hw616_1 :), (ve HB.out hw616_2 :), (ve HB.out hw616_3 :)⟩ (fun hHeld => ?_)
       clear hK K
       refine zr 8 _ ?_
       refine zo 9 (fun K hK => ?_)
       refine goes_ Tryd.func42 zk rfl #[.int .i64 a2, .int .i64 (l0_3.length : Int)] (by rfl) rfl rfl zm ?_
       with_reducible refine (saronref00_Turn.calls a2 (l0_3.length : Int) t615 _ A7.out).mono ?_
       rintro e w' ⟨rfl, ⟨nd, rfl⟩⟩
       refine ⟨_, rfl, ?_⟩
       refine hK.out _ _ ⟨vb BK609 0, vb BK609 1, vb BK609 2, vb BK609 3, (ve HB.out hw616_0 :), (ve HB.out hw616_1 :), (ve HB.out hw616_2 :), (ve HB.out hw616_3 :)⟩ (fun hHeld => ?_)
       clear hK K
       refine zr 33 _ ?_
       refine zu 10 ?_
       refine zt 11 ?_
       exact norm_ dDb3 (hCont (v613, gb617) _ ⟨hHeld, (zR HO614), (zc BK609), (zc BK617), GW617.out, GE617.out, NB609_617.out, NB617_609.out, zb⟩)
     ·skip
      refine box_step ?hg (N := 8) ?hd (cs := #[.int .i64 0, .int .i64 0, .int .i64 0, .int .i64 0]) (t := 66) ?hr ?_; (case hd => rfl); (case hg => rfl); (case hr => first | (go_simp; done) | (go_simp; rfl))
      intro gb617 hg w14 hbox hb
      have BK617 := zh (hbox)
      have GW617 := zh ((by rw [hg]; exact (below_size zb) : w.heap.size ≤ gb617))
      have GE617 := zh ((by rw [hg]; exact (below_size zb) : w.heap.size ≤ gb617))
      replace HB := zh (below_step zb hb)
      have NB609_617 := zh ((by rw [hg]; exact Nat.ne_of_lt (blk_lt (g := gb609) (o := .cells #[.int .i64 a0_0, .int .i64 a0_1, .int .i64 a0_2, .slice (some ad616) l0_3.length c0_3] 24 (0, 0)) (zc BK609)) : gb609 ≠ gb617))
      have NB617_609 := zh ((by rw [hg]; exact Nat.ne_of_gt (blk_lt (g := gb609) (o := .cells #[.int .i64 a0_0, .int .i64 a0_1, .int .i64 a0_2, .slice (some ad616) l0_3.length c0_3] 24 (0, 0)) (zc BK609)) : gb617 ≠ gb609))
      replace BK609 := zh (blk_below (g := gb609) (o := .cells #[.int .i64 a0_0, .int .i64 a0_1, .int .i64 a0_2, .slice (some ad616) l0_3.length c0_3] 24 (0, 0)) (zc BK609) hb)
      clear hb hbox hg
      refine hK.out _ _ ⟨vb BK609 0, vb BK609 1, vb BK609 2, vb BK609 3, (ve HB.out hw616_0 :), (ve HB.out hw616_1 :), (ve HB.out hw616_2 :), (ve HB.out hw616_3 :)⟩ (fun hHeld => ?_)
      clear hK K
      refine zr 8 _ ?_
      refine zo 2 (fun K hK => ?_)
      refine goes_ Tryd.func40 zk rfl #[.agg #[.int .i64 a0_0, .int .i64 a0_1, .int .i64 a0_2, .slice (some ad616) l0_3.length c0_3], .slice A1 l1.length c1] (by rfl) rfl rfl zm ?_
      with_reducible refine (saronlaw06_truly.calls k a0_0 a0_1 a0_2 _ _ l0_3 _ _ l1 t612 _ ?side1 ?side2 ?side3 ?side4 A6.out).mono ?_
      (case side1 => repeat (first | exact (Kd.C_below HR0_3.out HB.out) | (with_reducible refine Kd.C_alloc ?_ _) | (with_reducible refine Kd.C_drewN ?_ _) | (with_reducible refine Kd.C_drew ?_)))
      (case side2 => exact HC0_3.out)
      (case side3 => repeat (first | exact (Kd.C_below HR1.out HB.out) | (with_reducible refine Kd.C_alloc ?_ _) | (with_reducible refine Kd.C_drewN ?_ _) | (with_reducible refine Kd.C_drew ?_)))
      (case side4 => exact HC1.out)
      rintro e w15 ⟨v613, rfl, ho0, hb⟩
      refine ⟨_, rfl, ?_⟩
      have HO614 := zh (Kd.R_lower ho0 (below_size zb))
      replace BK609 := zh (blk_below (g := gb609) (o := .cells #[.int .i64 a0_0, .int .i64 a0_1, .int .i64 a0_2, .slice (some ad616) l0_3.length c0_3] 24 (0, 0)) (zc BK609) hb)
      replace BK617 := zh (blk_below (g := gb617) (o := .cells #[.int .i64 0, .int .i64 0, .int .i64 0, .int .i64 0] 66 (0, 0)) (zc BK617) hb)
      replace HB := zh (below_step zb hb)
      (try clear hb)
      (try clear hb2)
      (try clear hk)
      (try clear hi)
      (try clear ho0)
      refine hK.out _ _ ⟨vb BK609 0, vb BK609 1, vb BK609 2, vb BK609 3, (ve HB.out hw616_0 :), (ve HB.out hw616_1 :), (ve HB.out hw616_2 :), (ve HB.out hw616_3 :)⟩ (fun hHeld => ?_)
      clear hK K
      refine zr 26 _ ?_
      refine zo 9 (fun K hK => ?_)
      refine goes_ Tryd.func42 zk rfl #[.int .i64 a2, .int .i64 (l0_3.length : Int)] (by rfl) rfl rfl zm ?_
      with_reducible refine (saronref00_Turn.calls a2 (l0_3.length : Int) t615 _ A7.out).mono ?_
      rintro e w' ⟨rfl, ⟨nd, rfl⟩⟩
      refine ⟨_, rfl, ?_⟩
      refine hK.out _ _ ⟨vb BK609 0, vb BK609 1, vb BK609 2, vb BK609 3, (ve HB.out hw616_0 :), (ve HB.out hw616_1 :), (ve HB.out hw616_2 :), (ve HB.out hw616_3 :)⟩ (fun hHeld => ?_)
      clear hK K
      refine zr 33 _ ?_
      refine zu 10 ?_
      refine zt 11 ?_
      exact norm_ dDb3 (hCont (v613, gb617) _ ⟨hHeld, (zR HO614), (zc BK609), (zc BK617), GW617.out, GE617.out, NB609_617.out, NB617_609.out, zb⟩)
    rintro ⟨v613, gb617⟩ w16 ⟨hS_, h0_, h1_, h2_, h3_, h4_, h5_, h6_, h7_⟩
    have n0_ : Aside0 (Kd.R (Kd.int .i64) 3 w16 w.heap.size (fun _ => True) v613 t612) := ⟨h0_⟩
    have n1_ : Aside0 (w16.heap[gb609]? = some (.cells #[.int .i64 a0_0, .int .i64 a0_1, .int .i64 a0_2, .slice (some ad616) l0_3.length c0_3] 24 (0, 0))) := ⟨h1_⟩
    have n2_ : Aside0 (w16.heap[gb617]? = some (.cells #[.int .i64 0, .int .i64 0, .int .i64 0, .int .i64 0] 66 (0, 0))) := ⟨h2_⟩
    have n3_ : Aside0 (w.heap.size ≤ gb617) := ⟨h3_⟩
    have n4_ : Aside0 (w.heap.size ≤ gb617) := ⟨h4_⟩
    have n5_ : Aside0 (gb609 ≠ gb617) := ⟨h5_⟩
    have n6_ : Aside0 (gb617 ≠ gb609) := ⟨h6_⟩
    have n7_ : Aside0 (Below w.heap.size w w16) := ⟨h7_⟩
    clear BK609 HB h0_ h1_ h2_ h3_ h4_ h5_ h6_ h7_
    have HO614 := n0_
    have BK609 := n1_
    have BK617 := n2_
    have GW617 := n3_
    have GE617 := n4_
    have NB609_617 := n5_
    have NB617_609 := n6_
    have HB := n7_
    clear n0_ n1_ n2_ n3_ n4_ n5_ n6_ n7_
    have hHeld : w16.cell? ⟨gb609, 0, none⟩ = some (.int .i64 a0_0) ∧ w16.cell? ⟨gb609, 1, none⟩ = some (.int .i64 a0_1) ∧ w16.cell? ⟨gb609, 2, none⟩ = some (.int .i64 a0_2) ∧ w16.cell? ⟨gb609, 3, none⟩ = some (.slice (some ad616) l0_3.length c0_3) ∧ w16.cell? (ad616.add ((t615).toNat * 4)) = some (.int .i64 ((rd_T66 l0_3 t615).f0)) ∧ w16.cell? ⟨(ad616.add ((t615).toNat * 4)).block, (ad616.add ((t615).toNat * 4)).off + 1, none⟩ = some (.int .i64 ((rd_T66 l0_3 t615).f1)) ∧ w16.cell? ⟨(ad616.add ((t615).toNat * 4)).block, (ad616.add ((t615).toNat * 4)).off + 2, none⟩ = some (.int .i64 ((rd_T66 l0_3 t615).f2)) ∧ w16.cell? ⟨(ad616.add ((t615).toNat * 4)).block, (ad616.add ((t615).toNat * 4)).off + 3, none⟩ = some (.int .i64 ((rd_T66 l0_3 t615).f3)) := hS_
    refine norm_ (a' := ?_) ?_ ?_
    rotate_left
    ·simp only [putAll, Act.put, List.setIfInBounds_toArray, List.set_cons_zero, List.set_cons_succ]
     rfl
    refine zu 13 ?_
    refine zp 14 (fun K hK => ?_)
    have hs17 : w16.cell? ⟨gb617, 0, none⟩ = some (.int .i64 0) := vb BK617 0
    have hfs17 := blk_frozen BK617.out 0
    have hns17_0 := NB609_617.out
    have hms17_0 := NB617_609.out
    have hs18 : w16.cell? ⟨gb617, 1, none⟩ = some (.int .i64 0) := vb BK617 1
    have hfs18 := blk_frozen BK617.out 1
    have hns18_0 := NB609_617.out
    have hms18_0 := NB617_609.out
    have hs19 : w16.cell? ⟨gb617, 2, none⟩ = some (.int .i64 0) := vb BK617 2
    have hfs19 := blk_frozen BK617.out 2
    have hns19_0 := NB609_617.out
    have hms19_0 := NB617_609.out
    have hs20 : w16.cell? ⟨gb617, 3, none⟩ = some (.int .i64 0) := vb BK617 3
    have hfs20 := blk_frozen BK617.out 3
    have hns20_0 := NB609_617.out
    have hms20_0 := NB617_609.out
    refine skip_ (w1 := ?_) (by rfl) rfl ?_ ?_
    rotate_left
    ·go_simp
     rfl
    refine hK.out _ _ ⟨((cell_far (p := ⟨gb617, _, none⟩) NB609_617.out _).trans (((cell_far (p := ⟨gb617, _, none⟩) NB609_617.out _).trans (((cell_far (p := ⟨gb617, _, none⟩) NB609_617.out _).trans (((cell_far (p := ⟨gb617, _, none⟩) NB609_617.out _).trans (hHeld.1)))))))), ((cell_far (p := ⟨gb617, _, none⟩) NB609_617.out _).trans (((cell_far (p := ⟨gb617, _, none⟩) NB609_617.out _).trans (((cell_far (p := ⟨gb617, _, none⟩) NB609_617.out _).trans (((cell_far (p := ⟨gb617, _, none⟩) NB609_617.out _).trans (hHeld.2.1)))))))), ((cell_far (p := ⟨gb617, _, none⟩) NB609_617.out _).trans (((cell_far (p := ⟨gb617, _, none⟩) NB609_617.out _).trans (((cell_far (p := ⟨gb617, _, none⟩) NB609_617.out _).trans (((cell_far (p := ⟨gb617, _, none⟩) NB609_617.out _).trans (hHeld.2.2.1)))))))), ((cell_far (p := ⟨gb617, _, none⟩) NB609_617.out _).trans (((cell_far (p := ⟨gb617, _, none⟩) NB609_617.out _).trans (((cell_far (p := ⟨gb617, _, none⟩) NB609_617.out _).trans (((cell_far (p := ⟨gb617, _, none⟩) NB609_617.out _).trans (hHeld.2.2.2.1)))))))), ((cell_far (p := ⟨gb617, _, none⟩) (by first | exact Nat.ne_of_lt (Nat.lt_of_lt_of_le (by have := World.block_lt_of_cell? _ _ hw616_0; first | rwa [add_block] at this | exact this) GW617.out) | (rw [add_block]; exact Nat.ne_of_lt (Nat.lt_of_lt_of_le (by have := World.block_lt_of_cell? _ _ hw616_0; first | rwa [add_block] at this | exact this) GW617.out)) | (show (Addr.add _ _).block ≠ _; rw [add_block]; exact Nat.ne_of_lt (Nat.lt_of_lt_of_le (by have := World.block_lt_of_cell? _ _ hw616_0; first | rwa [add_block] at this | exact this) GW617.out)) | (dsimp only; exact Nat.ne_of_lt (Nat.lt_of_lt_of_le (by have := World.block_lt_of_cell? _ _ hw616_0; first | rwa [add_block] at this | exact this) GW617.out))) _).trans (((cell_far (p := ⟨gb617, _, none⟩) (by first | exact Nat.ne_of_lt (Nat.lt_of_lt_of_le (by have := World.block_lt_of_cell? _ _ hw616_0; first | rwa [add_block] at this | exact this) GW617.out) | (rw [add_block]; exact Nat.ne_of_lt (Nat.lt_of_lt_of_le (by have := World.block_lt_of_cell? _ _ hw616_0; first | rwa [add_block] at this | exact this) GW617.out)) | (show (Addr.add _ _).block ≠ _; rw [add_block]; exact Nat.ne_of_lt (Nat.lt_of_lt_of_le (by have := World.block_lt_of_cell? _ _ hw616_0; first | rwa [add_block] at this | exact this) GW617.out)) | (dsimp only; exact Nat.ne_of_lt (Nat.lt_of_lt_of_le (by have := World.block_lt_of_cell? _ _ hw616_0; first | rwa [add_block] at this | exact this) GW617.out))) _).trans (((cell_far (p := ⟨gb617, _, none⟩) (by first | exact Nat.ne_of_lt (Nat.lt_of_lt_of_le (by have := World.block_lt_of_cell? _ _ hw616_0; first | rwa [add_block] at this | exact this) GW617.out) | (rw [add_block]; exact Nat.ne_of_lt (Nat.lt_of_lt_of_le (by have := World.block_lt_of_cell? _ _ hw616_0; first | rwa [add_block] at this | exact this) GW617.out)) | (show (Addr.add _ _).block ≠ _; rw [add_block]; exact Nat.ne_of_lt (Nat.lt_of_lt_of_le (by have := World.block_lt_of_cell? _ _ hw616_0; first | rwa [add_block] at this | exact this) GW617.out)) | (dsimp only; exact Nat.ne_of_lt (Nat.lt_of_lt_of_le (by have := World.block_lt_of_cell? _ _ hw616_0; first | rwa [add_block] at this | exact this) GW617.out))) _).trans (((cell_far (p := ⟨gb617, _, none⟩) (by first | exact Nat.ne_of_lt (Nat.lt_of_lt_of_le (by have := World.block_lt_of_cell? _ _ hw616_0; first | rwa [add_block] at this | exact this) GW617.out) | (rw [add_block]; exact Nat.ne_of_lt (Nat.lt_of_lt_of_le (by have := World.block_lt_of_cell? _ _ hw616_0; first | rwa [add_block] at this | exact this) GW617.out)) | (show (Addr.add _ _).block ≠ _; rw [add_block]; exact Nat.ne_of_lt (Nat.lt_of_lt_of_le (by have := World.block_lt_of_cell? _ _ hw616_0; first | rwa [add_block] at this | exact this) GW617.out)) | (dsimp only; exact Nat.ne_of_lt (Nat.lt_of_lt_of_le (by have := World.block_lt_of_cell? _ _ hw616_0; first | rwa [add_block] at this | exact this) GW617.out))) _).trans (hHeld.2.2.2.2.1)))))))), ((cell_far (p := ⟨gb617, _, none⟩) (by first | exact Nat.ne_of_lt (Nat.lt_of_lt_of_le (by have := World.block_lt_of_cell? _ _ hw616_1; first | rwa [add_block] at this | exact this) GW617.out) | (rw [add_block]; exact Nat.ne_of_lt (Nat.lt_of_lt_of_le (by have := World.block_lt_of_cell? _ _ hw616_1; first | rwa [add_block] at this | exact this) GW617.out)) | (show (Addr.add _ _).block ≠ _; rw [add_block]; exact Nat.ne_of_lt (Nat.lt_of_lt_of_le (by have := World.block_lt_of_cell? _ _ hw616_1; first | rwa [add_block] at this | exact this) GW617.out)) | (dsimp only; exact Nat.ne_of_lt (Nat.lt_of_lt_of_le (by have := World.block_lt_of_cell? _ _ hw616_1; first | rwa [add_block] at this | exact this) GW617.out))) _).trans (((cell_far (p := ⟨gb617, _, none⟩) (by first | exact Nat.ne_of_lt (Nat.lt_of_lt_of_le (by have := World.block_lt_of_cell? _ _ hw616_1; first | rwa [add_block] at this | exact this) GW617.out) | (rw [add_block]; exact Nat.ne_of_lt (Nat.lt_of_lt_of_le (by have := World.block_lt_of_cell? _ _ hw616_1; first | rwa [add_block] at this | exact this) GW617.out)) | (show (Addr.add _ _).block ≠ _; rw [add_block]; exact Nat.ne_of_lt (Nat.lt_of_lt_of_le (by have := World.block_lt_of_cell? _ _ hw616_1; first | rwa [add_block] at this | exact this) GW617.out)) | (dsimp only; exact Nat.ne_of_lt (Nat.lt_of_lt_of_le (by have := World.block_lt_of_cell? _ _ hw616_1; first | rwa [add_block] at this | exact this) GW617.out))) _).trans (((cell_far (p := ⟨gb617, _, none⟩) (by first | exact Nat.ne_of_lt (Nat.lt_of_lt_of_le (by have := World.block_lt_of_cell? _ _ hw616_1; first | rwa [add_block] at this | exact this) GW617.out) | (rw [add_block]; exact Nat.ne_of_lt (Nat.lt_of_lt_of_le (by have := World.block_lt_of_cell? _ _ hw616_1; first | rwa [add_block] at this | exact this) GW617.out)) | (show (Addr.add _ _).block ≠ _; rw [add_block]; exact Nat.ne_of_lt (Nat.lt_of_lt_of_le (by have := World.block_lt_of_cell? _ _ hw616_1; first | rwa [add_block] at this | exact this) GW617.out)) | (dsimp only; exact Nat.ne_of_lt (Nat.lt_of_lt_of_le (by have := World.block_lt_of_cell? _ _ hw616_1; first | rwa [add_block] at this | exact this) GW617.out))) _).trans (((cell_far (p := ⟨gb617, _, none⟩) (by first | exact Nat.ne_of_lt (Nat.lt_of_lt_of_le (by have := World.block_lt_of_cell? _ _ hw616_1; first | rwa [add_block] at this | exact this) GW617.out) | (rw [add_block]; exact Nat.ne_of_lt (Nat.lt_of_lt_of_le (by have := World.block_lt_of_cell? _ _ hw616_1; first | rwa [add_block] at this | exact this) GW617.out)) | (show (Addr.add _ _).block ≠ _; rw [add_block]; exact Nat.ne_of_lt (Nat.lt_of_lt_of_le (by have := World.block_lt_of_cell? _ _ hw616_1; first | rwa [add_block] at this | exact this) GW617.out)) | (dsimp only; exact Nat.ne_of_lt (Nat.lt_of_lt_of_le (by have := World.block_lt_of_cell? _ _ hw616_1; first | rwa [add_block] at this | exact this) GW617.out))) _).trans (hHeld.2.2.2.2.2.1)))))))), ((cell_far (p := ⟨gb617, _, none⟩) (by first | exact Nat.ne_of_lt (Nat.lt_of_lt_of_le (by have := World.block_lt_of_cell? _ _ hw616_2; first | rwa [add_block] at this | exact this) GW617.out) | (rw [add_block]; exact Nat.ne_of_lt (Nat.lt_of_lt_of_le (by have := World.block_lt_of_cell? _ _ hw616_2; first | rwa [add_block] at this | exact this) GW617.out)) | (show (Addr.add _ _).block ≠ _; rw [add_block]; exact Nat.ne_of_lt (Nat.lt_of_lt_of_le (by have := World.block_lt_of_cell? _ _ hw616_2; first | rwa [add_block] at this | exact this) GW617.out)) | (dsimp only; exact Nat.ne_of_lt (Nat.lt_of_lt_of_le (by have := World.block_lt_of_cell? _ _ hw616_2; first | rwa [add_block] at this | exact this) GW617.out))) _).trans (((cell_far (p := ⟨gb617, _, none⟩) (by first | exact Nat.ne_of_lt (Nat.lt_of_lt_of_le (by have := World.block_lt_of_cell? _ _ hw616_2; first | rwa [add_block] at this | exact this) GW617.out) | (rw [add_block]; exact Nat.ne_of_lt (Nat.lt_of_lt_of_le (by have := World.block_lt_of_cell? _ _ hw616_2; first | rwa [add_block] at this | exact this) GW617.out)) | (show (Addr.add _ _).block ≠ _; rw [add_block]; exact Nat.ne_of_lt (Nat.lt_of_lt_of_le (by have := World.block_lt_of_cell? _ _ hw616_2; first | rwa [add_block] at this | exact this) GW617.out)) | (dsimp only; exact Nat.ne_of_lt (Nat.lt_of_lt_of_le (by have := World.block_lt_of_cell? _ _ hw616_2; first | rwa [add_block] at this | exact this) GW617.out))) _).trans (((cell_far (p := ⟨gb617, _, none⟩) (by first | exact Nat.ne_of_lt (Nat.lt_of_lt_of_le (by have := World.block_lt_of_cell? _ _ hw616_2; first | rwa [add_block] at this | exact this) GW617.out) | (rw [add_block]; exact Nat.ne_of_lt (Nat.lt_of_lt_of_le (by have := World.block_lt_of_cell? _ _ hw616_2; first | rwa [add_block] at this | exact this) GW617.out)) | (show (Addr.add _ _).block ≠ _; rw [add_block]; exact Nat.ne_of_lt (Nat.lt_of_lt_of_le (by have := World.block_lt_of_cell? _ _ hw616_2; first | rwa [add_block] at this | exact this) GW617.out)) | (dsimp only; exact Nat.ne_of_lt (Nat.lt_of_lt_of_le (by have := World.block_lt_of_cell? _ _ hw616_2; first | rwa [add_block] at this | exact this) GW617.out))) _).trans (((cell_far (p := ⟨gb617, _, none⟩) (by first | exact Nat.ne_of_lt (Nat.lt_of_lt_of_le (by have := World.block_lt_of_cell? _ _ hw616_2; first | rwa [add_block] at this | exact this) GW617.out) | (rw [add_block]; exact Nat.ne_of_lt (Nat.lt_of_lt_of_le (by have := World.block_lt_of_cell? _ _ hw616_2; first | rwa [add_block] at this | exact this) GW617.out)) | (show (Addr.add _ _).block ≠ _; rw [add_block]; exact Nat.ne_of_lt (Nat.lt_of_lt_of_le (by have := World.block_lt_of_cell? _ _ hw616_2; first | rwa [add_block] at this | exact this) GW617.out)) | (dsimp only; exact Nat.ne_of_lt (Nat.lt_of_lt_of_le (by have := World.block_lt_of_cell? _ _ hw616_2; first | rwa [add_block] at this | exact this) GW617.out))) _).trans (hHeld.2.2.2.2.2.2.1)))))))), ((cell_far (p := ⟨gb617, _, none⟩) (by first | exact Nat.ne_of_lt (Nat.lt_of_lt_of_le (by have := World.block_lt_of_cell? _ _ hw616_3; first | rwa [add_block] at this | exact this) GW617.out) | (rw [add_block]; exact Nat.ne_of_lt (Nat.lt_of_lt_of_le (by have := World.block_lt_of_cell? _ _ hw616_3; first | rwa [add_block] at this | exact this) GW617.out)) | (show (Addr.add _ _).block ≠ _; rw [add_block]; exact Nat.ne_of_lt (Nat.lt_of_lt_of_le (by have := World.block_lt_of_cell? _ _ hw616_3; first | rwa [add_block] at this | exact this) GW617.out)) | (dsimp only; exact Nat.ne_of_lt (Nat.lt_of_lt_of_le (by have := World.block_lt_of_cell? _ _ hw616_3; first | rwa [add_block] at this | exact this) GW617.out))) _).trans (((cell_far (p := ⟨gb617, _, none⟩) (by first | exact Nat.ne_of_lt (Nat.lt_of_lt_of_le (by have := World.block_lt_of_cell? _ _ hw616_3; first | rwa [add_block] at this | exact this) GW617.out) | (rw [add_block]; exact Nat.ne_of_lt (Nat.lt_of_lt_of_le (by have := World.block_lt_of_cell? _ _ hw616_3; first | rwa [add_block] at this | exact this) GW617.out)) | (show (Addr.add _ _).block ≠ _; rw [add_block]; exact Nat.ne_of_lt (Nat.lt_of_lt_of_le (by have := World.block_lt_of_cell? _ _ hw616_3; first | rwa [add_block] at this | exact this) GW617.out)) | (dsimp only; exact Nat.ne_of_lt (Nat.lt_of_lt_of_le (by have := World.block_lt_of_cell? _ _ hw616_3; first | rwa [add_block] at this | exact this) GW617.out))) _).trans (((cell_far (p := ⟨gb617, _, none⟩) (by first | exact Nat.ne_of_lt (Nat.lt_of_lt_of_le (by have := World.block_lt_of_cell? _ _ hw616_3; first | rwa [add_block] at this | exact this) GW617.out) | (rw [add_block]; exact Nat.ne_of_lt (Nat.lt_of_lt_of_le (by have := World.block_lt_of_cell? _ _ hw616_3; first | rwa [add_block] at this | exact this) GW617.out)) | (show (Addr.add _ _).block ≠ _; rw [add_block]; exact Nat.ne_of_lt (Nat.lt_of_lt_of_le (by have := World.block_lt_of_cell? _ _ hw616_3; first | rwa [add_block] at this | exact this) GW617.out)) | (dsimp only; exact Nat.ne_of_lt (Nat.lt_of_lt_of_le (by have := World.block_lt_of_cell? _ _ hw616_3; first | rwa [add_block] at this | exact this) GW617.out))) _).trans (((cell_far (p := ⟨gb617, _, none⟩) (by first | exact Nat.ne_of_lt (Nat.lt_of_lt_of_le (by have := World.block_lt_of_cell? _ _ hw616_3; first | rwa [add_block] at this | exact this) GW617.out) | (rw [add_block]; exact Nat.ne_of_lt (Nat.lt_of_lt_of_le (by have := World.block_lt_of_cell? _ _ hw616_3; first | rwa [add_block] at this | exact this) GW617.out)) | (show (Addr.add _ _).block ≠ _; rw [add_block]; exact Nat.ne_of_lt (Nat.lt_of_lt_of_le (by have := World.block_lt_of_cell? _ _ hw616_3; first | rwa [add_block] at this | exact this) GW617.out)) | (dsimp only; exact Nat.ne_of_lt (Nat.lt_of_lt_of_le (by have := World.block_lt_of_cell? _ _ hw616_3; first | rwa [add_block] at this | exact this) GW617.out))) _).trans (hHeld.2.2.2.2.2.2.2))))))))⟩ (fun hHeld => ?_)
    clear hK K
    refine zd ?_
    have hnb21 := NB609_617.out
    have hnc21 := NB617_609.out
    have hcz22_0 : w16.cell? ⟨gb609, 0, none⟩ = some (.int .i64 a0_0) := vb BK609 0
    have hcz22_1 : w16.cell? ⟨gb609, 1, none⟩ = some (.int .i64 a0_1) := vb BK609 1
    have hcz22_2 : w16.cell? ⟨gb609, 2, none⟩ = some (.int .i64 a0_2) := vb BK609 2
    have hcz22_3 : w16.cell? ⟨gb609, 3, none⟩ = some (.slice (some ad616) l0_3.length c0_3) := vb BK609 3
    have hfz22_0 := blk_frozen BK609.out 0
    have hfz22_1 := blk_frozen BK609.out 1
    have hfz22_2 := blk_frozen BK609.out 2
    have hfz22_3 := blk_frozen BK609.out 3
    try go_wp2_with (first | ((with_reducible refine gate_dst (N := 9) rfl ?_); (try (refine gate_guard (by rfl) ?_; dsimp only)); refine box_event ?hg (N := 9) ?hd (cs := #[.int .i64 0, .int .i64 0, .int .i64 0, .slice none 0 0]) (t := 24) ?hr ?_; (case hd => rfl); (case hg => rfl); (case hr => first | (go_simp; done) | (go_simp; rfl)); intro gb618 hg w23 hbox hb; have n0_ := zh (Kd.R_below (by (with_reducible repeat (first | apply Kd.R_alloc | apply Kd.R_drewN | apply Kd.R_drew)); exact (Kd.R_mono (Kd.R_far (p := ⟨gb617, 3, none⟩) (Kd.R_far (p := ⟨gb617, 2, none⟩) (Kd.R_far (p := ⟨gb617, 1, none⟩) (Kd.R_far (p := ⟨gb617, 0, none⟩) (Kd.R_types HO614.out BK617.out (by decide)) (fun _ hk => hk.2) (.int .i64 ((rd_T66 l0_3 t615).f0))) (fun _ hk => hk.2) (.int .i64 ((rd_T66 l0_3 t615).f1))) (fun _ hk => hk.2) (.int .i64 ((rd_T66 l0_3 t615).f2))) (fun _ hk => hk.2) (.int .i64 ((rd_T66 l0_3 t615).f3))) (fun _ h_ => h_.1))) hb); have n1_ := zh (blk_below (g := gb609) (o := .cells #[.int .i64 a0_0, .int .i64 a0_1, .int .i64 a0_2, .slice (some ad616) l0_3.length c0_3] 24 (0, 0)) dDb2 hb); have n2_ := zh (blk_below (g := gb617) (o := .cells #[.int .i64 ((rd_T66 l0_3 t615).f0), .int .i64 ((rd_T66 l0_3 t615).f1), .int .i64 ((rd_T66 l0_3 t615).f2), .int .i64 ((rd_T66 l0_3 t615).f3)] 66 (0, 0)) dDb1 hb); have n3_ := zh (below_step zb hb); have n4_ := zh (hbox); have n5_ := zh ((by rw [hg]; exact (below_size zb) : w.heap.size ≤ gb618)); have n6_ := zh ((by rw [hg]; exact (below_size zb) : w.heap.size ≤ gb618)); have n7_ := zh ((by rw [hg]; exact Nat.ne_of_lt (blk_lt (g := gb609) (o := .cells #[.int .i64 a0_0, .int .i64 a0_1, .int .i64 a0_2, .slice (some ad616) l0_3.length c0_3] 24 (0, 0)) dDb2) : gb609 ≠ gb618)); have n8_ := zh ((by rw [hg]; exact Nat.ne_of_gt (blk_lt (g := gb609) (o := .cells #[.int .i64 a0_0, .int .i64 a0_1, .int .i64 a0_2, .slice (some ad616) l0_3.length c0_3] 24 (0, 0)) dDb2) : gb618 ≠ gb609)); have n9_ := zh ((by rw [hg]; exact Nat.ne_of_lt (blk_lt (g := gb617) (o := .cells #[.int .i64 ((rd_T66 l0_3 t615).f0), .int .i64 ((rd_T66 l0_3 t615).f1), .int .i64 ((rd_T66 l0_3 t615).f2), .int .i64 ((rd_T66 l0_3 t615).f3)] 66 (0, 0)) dDb1) : gb617 ≠ gb618)); have n10_ := zh ((by rw [hg]; exact Nat.ne_of_gt (blk_lt (g := gb617) (o := .cells #[.int .i64 ((rd_T66 l0_3 t615).f0), .int .i64 ((rd_T66 l0_3 t615).f1), .int .i64 ((rd_T66 l0_3 t615).f2), .int .i64 ((rd_T66 l0_3 t615).f3)] 66 (0, 0)) dDb1) : gb618 ≠ gb617)); clear HO614; clear BK609; clear BK617; clear HB; have HO614 := n0_; have BK609 := n1_; have BK617 := n2_; have HB := n3_; have BK618 := n4_; have GW618 := n5_; have GE618 := n6_; have NB609_618 := n7_; have NB618_609 := n8_; have NB617_618 := n9_; have NB618_617 := n10_; clear n0_ n1_ n2_ n3_ n4_ n5_ n6_ n7_ n8_ n9_ n10_; clear hb hbox hg; have hnb24 := NB618_609.out; have hnc24 := NB609_618.out; have hnb25 := NB618_617.out; have hnc25 := NB617_618.out; have hcz26_0 : w23.cell? ⟨gb618, 0, none⟩ = some (.int .i64 0) := vb BK618 0; have hcz26_1 : w23.cell? ⟨gb618, 1, none⟩ = some (.int .i64 0) := vb BK618 1; have hcz26_2 : w23.cell? ⟨gb618, 2, none⟩ = some (.int .i64 0) := vb BK618 2; have hcz26_3 : w23.cell? ⟨gb618, 3, none⟩ = some (.slice none 0 0) := vb BK618 3; have hfz26_0 := blk_frozen BK618.out 0; have hfz26_1 := blk_frozen BK618.out 1; have hfz26_2 := blk_frozen BK618.out 2; have hfz26_3 := blk_frozen BK618.out 3))
    go_loopg [10] k (fun kq v10 w' => ∃ (x10_1 : Int) (x619003_1 : List (S66)) (u619003 : Value), v10 = .int .i64 x10_1 ∧ Aside0 (saronlaw06_KernelDoubled.l0 kq t612 x10_1 a0_0 a0_1 a0_2 l0_3 ((rd_T66 l0_3 t615).f0) ((rd_T66 l0_3 t615).f1) ((rd_T66 l0_3 t615).f2) ((rd_T66 l0_3 t615).f3) a0_0 a0_1 a0_2 x619003_1 = some r) ∧ Aside0 (kq ≤ k) ∧ Aside0 (Kd.R (Kd.int .i64) 3 w' w.heap.size (fun _ => True) v613 t612) ∧ Aside0 (Kd.R k66 66 w' w.heap.size (fun k_ => k_ ≠ gb617) u619003 x619003_1) ∧ Aside0 (w'.heap[gb609]? = some (.cells #[.int .i64 a0_0, .int .i64 a0_1, .int .i64 a0_2, (.slice (some ad616) l0_3.length c0_3)] 24 (0, 0))) ∧ Aside0 (w'.heap[gb617]? = some (.cells #[.int .i64 ((rd_T66 l0_3 t615).f0), .int .i64 ((rd_T66 l0_3 t615).f1), .int .i64 ((rd_T66 l0_3 t615).f2), .int .i64 ((rd_T66 l0_3 t615).f3)] 66 (0, 0))) ∧ Aside0 (w'.heap[gb618]? = some (.cells #[.int .i64 a0_0, .int .i64 a0_1, .int .i64 a0_2, u619003] 24 (0, 0))) ∧ Aside0 (Below w.heap.size w w'))
    case atStart => exact ⟨(0), (([] : List (S66))), (.slice none 0 0), ze, H', ⟨Nat.le_refl _⟩, ⟨by (with_reducible repeat (first | apply Kd.R_alloc | apply Kd.R_drewN | apply Kd.R_drew)); exact Kd.R_mono (Kd.R_far (p := ⟨gb618, 3, none⟩) (Kd.R_far (p := ⟨gb618, 3, none⟩) (Kd.R_far (p := ⟨gb618, 2, none⟩) (Kd.R_far (p := ⟨gb618, 1, none⟩) (Kd.R_far (p := ⟨gb618, 0, none⟩) (Kd.R_types HO614.out BK618.out (by decide)) (fun _ hk => hk.2) (.int .i64 a0_0)) (fun _ hk => hk.2) (.int .i64 a0_1)) (fun _ hk => hk.2) (.int .i64 a0_2)) (fun _ hk => hk.2) (.slice (some ad616) l0_3.length c0_3)) (fun _ hk => hk.2) (.slice none 0 0)) (fun _ hk => trivial)⟩, ⟨by first | exact Kd.R_nil _ _ _ _ _ | exact Kd.N_nil _ _ _ _ _ | exact Kd.V_nil _ _ _ _ _ | exact Kd.Q_nil _ _ _ _ _ | exact Kd.S_nil _ _ _ _ _⟩, ⟨by (with_reducible repeat (first | refine blk_drewN ?_ _ | refine blk_drew ?_ | refine blk_alloc ?_ _)); refine blk_far ?_ NB609_618.out _; (with_reducible repeat (first | refine blk_drewN ?_ _ | refine blk_drew ?_ | refine blk_alloc ?_ _)); refine blk_far ?_ NB609_618.out _; (with_reducible repeat (first | refine blk_drewN ?_ _ | refine blk_drew ?_ | refine blk_alloc ?_ _)); refine blk_far ?_ NB609_618.out _; (with_reducible repeat (first | refine blk_drewN ?_ _ | refine blk_drew ?_ | refine blk_alloc ?_ _)); refine blk_far ?_ NB609_618.out _; (with_reducible repeat (first | refine blk_drewN ?_ _ | refine blk_drew ?_ | refine blk_alloc ?_ _)); refine blk_far ?_ NB609_618.out _; (with_reducible repeat (first | refine blk_drewN ?_ _ | refine blk_drew ?_ | refine blk_alloc ?_ _)); exact BK609.out⟩, ⟨by (with_reducible repeat (first | refine blk_drewN ?_ _ | refine blk_drew ?_ | refine blk_alloc ?_ _)); refine blk_far ?_ NB617_618.out _; (with_reducible repeat (first | refine blk_drewN ?_ _ | refine blk_drew ?_ | refine blk_alloc ?_ _)); refine blk_far ?_ NB617_618.out _; (with_reducible repeat (first | refine blk_drewN ?_ _ | refine blk_drew ?_ | refine blk_alloc ?_ _)); refine blk_far ?_ NB617_618.out _; (with_reducible repeat (first | refine blk_drewN ?_ _ | refine blk_drew ?_ | refine blk_alloc ?_ _)); refine blk_far ?_ NB617_618.out _; (with_reducible repeat (first | refine blk_drewN ?_ _ | refine blk_drew ?_ | refine blk_alloc ?_ _)); refine blk_far ?_ NB617_618.out _; (with_reducible repeat (first | refine blk_drewN ?_ _ | refine blk_drew ?_ | refine blk_alloc ?_ _)); exact BK617.out⟩, ⟨by (with_reducible repeat (first | refine blk_drewN ?_ _ | refine blk_drew ?_ | refine blk_alloc ?_ _)); refine blk_put (cs := #[.int .i64 a0_0, .int .i64 a0_1, .int .i64 a0_2, .slice (some ad616) l0_3.length c0_3]) ?_ 3 _ rfl; (with_reducible repeat (first | refine blk_drewN ?_ _ | refine blk_drew ?_ | refine blk_alloc ?_ _)); refine blk_put (cs := #[.int .i64 a0_0, .int .i64 a0_1, .int .i64 a0_2, .slice none 0 0]) ?_ 3 _ rfl; (with_reducible repeat (first | refine blk_drewN ?_ _ | refine blk_drew ?_ | refine blk_alloc ?_ _)); refine blk_put (cs := #[.int .i64 a0_0, .int .i64 a0_1, .int .i64 0, .slice none 0 0]) ?_ 2 _ rfl; (with_reducible repeat (first | refine blk_drewN ?_ _ | refine blk_drew ?_ | refine blk_alloc ?_ _)); refine blk_put (cs := #[.int .i64 a0_0, .int .i64 0, .int .i64 0, .slice none 0 0]) ?_ 1 _ rfl; (with_reducible repeat (first | refine blk_drewN ?_ _ | refine blk_drew ?_ | refine blk_alloc ?_ _)); refine blk_put (cs := #[.int .i64 0, .int .i64 0, .int .i64 0, .slice none 0 0]) ?_ 0 _ rfl; (with_reducible repeat (first | refine blk_drewN ?_ _ | refine blk_drew ?_ | refine blk_alloc ?_ _)); exact BK618.out⟩, ⟨zb⟩⟩
    case round =>
     as_aux_lemma =>
      clear H'
      try clear c1
      try clear c2
      try clear p2
      try clear c3
      try clear c4
      try clear c5
      try clear p6
      try clear q6
      try clear hx6
      try clear c8
      try clear c8b0
      try clear c9
      try clear c9b0
      try clear c10
      try clear c21
      try clear c24
      try clear c25
      try clear hcz11_0
      try clear hcz11_1
      try clear hcz11_2
      try clear hcz11_3
      try clear hcz22_0
      try clear hcz22_1
      try clear hcz22_2
      try clear hcz22_3
      try clear hcz26_0
      try clear hcz26_1
      try clear hcz26_2
      try clear hcz26_3
      try clear hfz11_0
      try clear hfz11_1
      try clear hfz11_2
      try clear hfz11_3
      try clear hfz22_0
      try clear hfz22_1
      try clear hfz22_2
      try clear hfz22_3
      try clear hfz26_0
      try clear hfz26_1
      try clear hfz26_2
      try clear hfz26_3
      try clear hx616_0
      try clear hx616_1
      try clear hx616_2
      try clear hx616_3
      try clear p616
      try clear q616
      obtain ⟨x10_1, x619003_1, u619003, rfl, HA, HK1, HO_7, HO_619003, BK609, BK617, BK618, HB⟩ := hrel
      cases gk with
      | zero => exact absurd HA.out (by simp [saronlaw06_KernelDoubled.l0])
      | succ k1 =>
       have H := HA.out
       clear HA
       simp only [saronlaw06_KernelDoubled.l0] at H
       by_cases c27 : x10_1 ≤ 3
       ·rw [if_pos c27] at H
        have c27b0 : decide (x10_1 ≤ 3) = true := decide_eq_true c27
        clear c27
        by_cases c28 : x619003_1.length < 4398046511104
        ·rw [if_pos c28] at H
         have LMc28 := zh c28
         clear c28
         obtain ⟨y619, hy619⟩ : ∃ y_ : List (S66), y_ = (x619003_1 ++ [(⟨x10_1, ((rd_T66 l0_3 t615).f1), ((rd_T66 l0_3 t615).f2), 0⟩ : S66)]) := ⟨_, rfl⟩
         replace H : (saronlaw06_KernelDoubled.l0 k1 t612 (wrap64 (x10_1 + 1)) a0_0 a0_1 a0_2 l0_3 ((rd_T66 l0_3 t615).f0) ((rd_T66 l0_3 t615).f1) ((rd_T66 l0_3 t615).f2) ((rd_T66 l0_3 t615).f3) a0_0 a0_1 a0_2 y619) = some r := by first | (rw [hy619]; with_reducible exact H) | (have H2_ := (Option.bind_some _ _).symm.trans H; rw [hy619]; with_reducible exact H2_) | (have H2_ := (Option.bind_some _ _).symm.trans H; with_reducible exact H2_) | with_reducible exact H | (rw [hy619]; exact H) | exact H
         have Ny619 := zh hy619
         clear hy619
         have H' := zh H
         clear H
         have hnb29 := NB618_609.out
         have hnc29 := NB609_618.out
         have hnb30 := NB618_617.out
         have hnc30 := NB617_618.out
         have hcz31_0 : wr.cell? ⟨gb618, 0, none⟩ = some (.int .i64 a0_0) := vb BK618 0
         have hcz31_1 : wr.cell? ⟨gb618, 1, none⟩ = some (.int .i64 a0_1) := vb BK618 1
         have hcz31_2 : wr.cell? ⟨gb618, 2, none⟩ = some (.int .i64 a0_2) := vb BK618 2
         have hcz31_3 : wr.cell? ⟨gb618, 3, none⟩ = some (u619003) := vb BK618 3
         have hfz31_0 := blk_frozen BK618.out 0
         have hfz31_1 := blk_frozen BK618.out 1
         have hfz31_2 := blk_frozen BK618.out 2
         have hfz31_3 := blk_frozen BK618.out 3
         have hnb32 := NB617_609.out
         have hnc32 := NB609_617.out
         have hcz33_0 : wr.cell? ⟨gb617, 0, none⟩ = some (.int .i64 ((rd_T66 l0_3 t615).f0)) := vb BK617 0
         have hcz33_1 : wr.cell? ⟨gb617, 1, none⟩ = some (.int .i64 ((rd_T66 l0_3 t615).f1)) := vb BK617 1
         have hcz33_2 : wr.cell? ⟨gb617, 2, none⟩ = some (.int .i64 ((rd_T66 l0_3 t615).f2)) := vb BK617 2
         have hcz33_3 : wr.cell? ⟨gb617, 3, none⟩ = some (.int .i64 ((rd_T66 l0_3 t615).f3)) := vb BK617 3
         have hfz33_0 := blk_frozen BK617.out 0
         have hfz33_1 := blk_frozen BK617.out 1
         have hfz33_2 := blk_frozen BK617.out 2
         have hfz33_3 := blk_frozen BK617.out 3
         go_wp2_with (first | ((with_reducible refine gate_builtin (b := .append) (xs := #[.tmp 43, .tmp 50]) rfl ?_); (try (refine gate_guard (by rfl) ?_; dsimp only)); at_builtin; refine Kd.R_append k66 (w0 := w) w.heap.size rfl (.tmp 43) (.tmp 50) 22 66 (.agg #[(.int .i64 0), (.int .i64 0), (.int .i64 0), (.int .i64 0)]) 32 rfl Tryd.underlying22 info66 rfl (by decide) (by omega) u619003 x619003_1 (⟨x10_1, ((rd_T66 l0_3 t615).f1), ((rd_T66 l0_3 t615).f2), 0⟩ : S66) [.int .i64 x10_1, .int .i64 ((rd_T66 l0_3 t615).f1), .int .i64 ((rd_T66 l0_3 t615).f2), .int .i64 0] (fun k_ => k_ ≠ gb617) (fun _ => False) rfl rfl ?aP (fun _ hk => hk.elim) ?aF ?aO ?aB ?aS ?aL ?_; (case aP => exact k66_mkM _ _ _ (⟨x10_1, ((rd_T66 l0_3 t615).f1), ((rd_T66 l0_3 t615).f2), 0⟩ : S66)); (case aB => exact zb); (case aF => exact (fun k_ hk => Kd.freshB (g := gb617) (o := .cells #[.int .i64 ((rd_T66 l0_3 t615).f0), .int .i64 ((rd_T66 l0_3 t615).f1), .int .i64 ((rd_T66 l0_3 t615).f2), .int .i64 ((rd_T66 l0_3 t615).f3)] 66 (0, 0)) (zc BK617) k_ hk)); (case aO => exact (zR HO_619003)); (case aS => exact (below_size zb)); (case aL => have := LMc28.out; omega); intro v620 w34 ho hb hg hat; rw [← Ny619.out] at ho; have n0_ := zh (Kd.R_over' (zR HO_7) (Kd.R_typed (zR HO_619003)) (by decide) hg); have n1_ := zh (blk_grown (g := gb609) (o := .cells #[.int .i64 a0_0, .int .i64 a0_1, .int .i64 a0_2, .slice (some ad616) l0_3.length c0_3] 24 (0, 0)) (zc BK609) hg (Kd.R_ne HO_619003.out BK609.out (by decide))); have n2_ := zh (blk_grown (g := gb617) (o := .cells #[.int .i64 ((rd_T66 l0_3 t615).f0), .int .i64 ((rd_T66 l0_3 t615).f1), .int .i64 ((rd_T66 l0_3 t615).f2), .int .i64 ((rd_T66 l0_3 t615).f3)] 66 (0, 0)) (zc BK617) hg (Kd.R_away HO_619003.out (fun _ hk => hk))); have n3_ := zh (blk_grown (g := gb618) (o := .cells #[.int .i64 a0_0, .int .i64 a0_1, .int .i64 a0_2, u619003] 24 (0, 0)) (zc BK618) hg (Kd.R_ne HO_619003.out BK618.out (by decide))); have n4_ := zh (hb); have n5_ := zh (ho); clear HO_7; clear BK609; clear BK617; clear BK618; clear HB; clear HO_619003; have HO_7 := n0_; have BK609 := n1_; have BK617 := n2_; have BK618 := n3_; have HB := n4_; have HO621 := n5_; clear n0_ n1_ n2_ n3_ n4_ n5_; clear ho hb hg hat; obtain ⟨Ao35, co35, eo35⟩ := Kd.R_slice HO621.out; subst eo35; have hcz36_0 : w34.cell? ⟨gb618, 0, none⟩ = some (.int .i64 a0_0) := vb BK618 0; have hcz36_1 : w34.cell? ⟨gb618, 1, none⟩ = some (.int .i64 a0_1) := vb BK618 1; have hcz36_2 : w34.cell? ⟨gb618, 2, none⟩ = some (.int .i64 a0_2) := vb BK618 2; have hcz36_3 : w34.cell? ⟨gb618, 3, none⟩ = some (u619003) := vb BK618 3; have hfz36_0 := blk_frozen BK618.out 0; have hfz36_1 := blk_frozen BK618.out 1; have hfz36_2 := blk_frozen BK618.out 2; have hfz36_3 := blk_frozen BK618.out 3))
         go_roundg k1
         case measure => have := HK1.out; omega
         case rel => exact ⟨(wrap64 (x10_1 + 1)), (y619), (.slice Ao35 y619.length co35), ze, H', ⟨by have := HK1.out; omega⟩, ⟨by (with_reducible repeat (first | apply Kd.R_alloc | apply Kd.R_drewN | apply Kd.R_drew)); exact Kd.R_mono (Kd.R_far (p := ⟨gb618, 3, none⟩) (Kd.R_types HO_7.out BK618.out (by decide)) (fun _ hk => hk.2) (.slice Ao35 y619.length co35)) (fun _ hk => trivial)⟩, ⟨by (with_reducible repeat (first | apply Kd.R_alloc | apply Kd.R_drewN | apply Kd.R_drew)); exact Kd.R_mono (Kd.R_far (p := ⟨gb618, 3, none⟩) (Kd.R_types HO621.out BK618.out (by decide)) (fun _ hk => hk.2) (.slice Ao35 y619.length co35)) (fun _ hk => hk.1)⟩, ⟨by (with_reducible repeat (first | refine blk_drewN ?_ _ | refine blk_drew ?_ | refine blk_alloc ?_ _)); refine blk_far ?_ NB609_618.out _; (with_reducible repeat (first | refine blk_drewN ?_ _ | refine blk_drew ?_ | refine blk_alloc ?_ _)); exact BK609.out⟩, ⟨by (with_reducible repeat (first | refine blk_drewN ?_ _ | refine blk_drew ?_ | refine blk_alloc ?_ _)); refine blk_far ?_ NB617_618.out _; (with_reducible repeat (first | refine blk_drewN ?_ _ | refine blk_drew ?_ | refine blk_alloc ?_ _)); exact BK617.out⟩, ⟨by (with_reducible repeat (first | refine blk_drewN ?_ _ | refine blk_drew ?_ | refine blk_alloc ?_ _)); refine blk_put (cs := #[.int .i64 a0_0, .int .i64 a0_1, .int .i64 a0_2, u619003]) ?_ 3 _ rfl; (with_reducible repeat (first | refine blk_drewN ?_ _ | refine blk_drew ?_ | refine blk_alloc ?_ _)); exact BK618.out⟩, ⟨zb⟩⟩
        ·rw [if_neg c28] at H
         exact absurd H (by simp)
       ·rw [if_neg c27] at H
        have c27b0 : decide (x10_1 ≤ 3) = false := decide_eq_false c27
        clear c27
        replace H := Option.bind_eq_some_iff.mp H
        obtain ⟨⟨t622, t625⟩, A370, H⟩ := H
        replace H : ((kernel_Part.f a0_0 a0_1 a0_2 x619003_1 t612 1).bind fun bt626 => ((kernel_Part.f a0_0 a0_1 a0_2 x619003_1 t612 2).bind fun bt630 => ((kernel_Part.f a0_0 a0_1 a0_2 x619003_1 t612 3).bind fun bt634 => (if t625 = 0 then (if bt626.2 = 0 then (if bt630.2 = 0 then (if bt634.2 = 0 then (if (bt626.1.length : Int) = a0_2 then (if (t622.length : Int) = (wrap64 (Int.tdiv a0_2 2)) then (if (bt630.1.length : Int) = (wrap64 (2 * a0_2)) then (saronlaw06_KernelDoubled.j1 k1 t622 bt626.1 bt630.1 bt634.1 ((bt634.1.length : Int) != (wrap64 (2 * a0_2)))) else (saronlaw06_KernelDoubled.j1 k1 t622 bt626.1 bt630.1 bt634.1 true)) else (saronlaw06_KernelDoubled.j1 k1 t622 bt626.1 bt630.1 bt634.1 true)) else (saronlaw06_KernelDoubled.j1 k1 t622 bt626.1 bt630.1 bt634.1 true)) else (saronlaw06_KernelDoubled.j1 k1 t622 bt626.1 bt630.1 bt634.1 true)) else (saronlaw06_KernelDoubled.j1 k1 t622 bt626.1 bt630.1 bt634.1 true)) else (saronlaw06_KernelDoubled.j1 k1 t622 bt626.1 bt630.1 bt634.1 true)) else (saronlaw06_KernelDoubled.j1 k1 t622 bt626.1 bt630.1 bt634.1 true))))) = some r := H
        have A37 := zh A370
        clear A370
        replace H := Option.bind_eq_some_iff.mp H
        obtain ⟨⟨t626, t629⟩, A380, H⟩ := H
        replace H : ((kernel_Part.f a0_0 a0_1 a0_2 x619003_1 t612 2).bind fun bt630 => ((kernel_Part.f a0_0 a0_1 a0_2 x619003_1 t612 3).bind fun bt634 => (if t625 = 0 then (if t629 = 0 then (if bt630.2 = 0 then (if bt634.2 = 0 then (if (t626.length : Int) = a0_2 then (if (t622.length : Int) = (wrap64 (Int.tdiv a0_2 2)) then (if (bt630.1.length : Int) = (wrap64 (2 * a0_2)) then (saronlaw06_KernelDoubled.j1 k1 t622 t626 bt630.1 bt634.1 ((bt634.1.length : Int) != (wrap64 (2 * a0_2)))) else (saronlaw06_KernelDoubled.j1 k1 t622 t626 bt630.1 bt634.1 true)) else (saronlaw06_KernelDoubled.j1 k1 t622 t626 bt630.1 bt634.1 true)) else (saronlaw06_KernelDoubled.j1 k1 t622 t626 bt630.1 bt634.1 true)) else (saronlaw06_KernelDoubled.j1 k1 t622 t626 bt630.1 bt634.1 true)) else (saronlaw06_KernelDoubled.j1 k1 t622 t626 bt630.1 bt634.1 true)) else (saronlaw06_KernelDoubled.j1 k1 t622 t626 bt630.1 bt634.1 true)) else (saronlaw06_KernelDoubled.j1 k1 t622 t626 bt630.1 bt634.1 true)))) = some r := H
        have A38 := zh A380
        clear A380
        replace H := Option.bind_eq_some_iff.mp H
        obtain ⟨⟨t630, t633⟩, A390, H⟩ := H
        replace H : ((kernel_Part.f a0_0 a0_1 a0_2 x619003_1 t612 3).bind fun bt634 => (if t625 = 0 then (if t629 = 0 then (if t633 = 0 then (if bt634.2 = 0 then (if (t626.length : Int) = a0_2 then (if (t622.length : Int) = (wrap64 (Int.tdiv a0_2 2)) then (if (t630.length : Int) = (wrap64 (2 * a0_2)) then (saronlaw06_KernelDoubled.j1 k1 t622 t626 t630 bt634.1 ((bt634.1.length : Int) != (wrap64 (2 * a0_2)))) else (saronlaw06_KernelDoubled.j1 k1 t622 t626 t630 bt634.1 true)) else (saronlaw06_KernelDoubled.j1 k1 t622 t626 t630 bt634.1 true)) else (saronlaw06_KernelDoubled.j1 k1 t622 t626 t630 bt634.1 true)) else (saronlaw06_KernelDoubled.j1 k1 t622 t626 t630 bt634.1 true)) else (saronlaw06_KernelDoubled.j1 k1 t622 t626 t630 bt634.1 true)) else (saronlaw06_KernelDoubled.j1 k1 t622 t626 t630 bt634.1 true)) else (saronlaw06_KernelDoubled.j1 k1 t622 t626 t630 bt634.1 true))) = some r := H
        have A39 := zh A390
        clear A390
        replace H := Option.bind_eq_some_iff.mp H
        obtain ⟨⟨t634, t637⟩, A400, H⟩ := H
        replace H : (if t625 = 0 then (if t629 = 0 then (if t633 = 0 then (if t637 = 0 then (if (t626.length : Int) = a0_2 then (if (t622.length : Int) = (wrap64 (Int.tdiv a0_2 2)) then (if (t630.length : Int) = (wrap64 (2 * a0_2)) then (saronlaw06_KernelDoubled.j1 k1 t622 t626 t630 t634 ((t634.length : Int) != (wrap64 (2 * a0_2)))) else (saronlaw06_KernelDoubled.j1 k1 t622 t626 t630 t634 true)) else (saronlaw06_KernelDoubled.j1 k1 t622 t626 t630 t634 true)) else (saronlaw06_KernelDoubled.j1 k1 t622 t626 t630 t634 true)) else (saronlaw06_KernelDoubled.j1 k1 t622 t626 t630 t634 true)) else (saronlaw06_KernelDoubled.j1 k1 t622 t626 t630 t634 true)) else (saronlaw06_KernelDoubled.j1 k1 t622 t626 t630 t634 true)) else (saronlaw06_KernelDoubled.j1 k1 t622 t626 t630 t634 true)) = some r := H
        have A40 := zh A400
        clear A400
        have HC41 := zh H
        clear H
        have hnb42 := NB618_609.out
        have hnc42 := NB609_618.out
        have hnb43 := NB618_617.out
        have hnc43 := NB617_618.out
        have hcz44_0 : wr.cell? ⟨gb618, 0, none⟩ = some (.int .i64 a0_0) := vb BK618 0
        have hcz44_1 : wr.cell? ⟨gb618, 1, none⟩ = some (.int .i64 a0_1) := vb BK618 1
        have hcz44_2 : wr.cell? ⟨gb618, 2, none⟩ = some (.int .i64 a0_2) := vb BK618 2
        have hcz44_3 : wr.cell? ⟨gb618, 3, none⟩ = some (u619003) := vb BK618 3
        have hfz44_0 := blk_frozen BK618.out 0
        have hfz44_1 := blk_frozen BK618.out 1
        have hfz44_2 := blk_frozen BK618.out 2
        have hfz44_3 := blk_frozen BK618.out 3
        obtain ⟨Ao45, co45, eo45⟩ := Kd.R_slice HO_619003.out
        subst eo45
        obtain ⟨Ao46, co46, eo46⟩ := Kd.R_slice HO_7.out
        subst eo46
        go_upto_region 14 with (first | ((with_reducible refine gate_callee (f := 16) rfl ?_); refine goesL_ (some 56) rfl rfl Tryd.func16 zk rfl #[.agg #[.int .i64 a0_0, .int .i64 a0_1, .int .i64 a0_2, .slice Ao45 x619003_1.length co45], .slice Ao46 t612.length co46, .int .i64 0] rfl zm ?_; (with_reducible refine (kernel_Part.calls a0_0 a0_1 a0_2 _ _ x619003_1 _ _ t612 0 t622 t625 _ ?side1 ?side2 ?side3 ?side4 ?side5 A37.out).mono ?_); (case side1 => repeat (first | exact (Kd.R_reads' HO_619003.out).2.2 | (with_reducible refine Kd.C_alloc ?_ _) | (with_reducible refine Kd.C_drewN ?_ _) | (with_reducible refine Kd.C_drew ?_))); (case side2 => exact (Kd.R_reads' HO_619003.out).2.1); (case side3 => repeat (first | exact (Kd.R_reads' HO_7.out).2.2 | (with_reducible refine Kd.C_alloc ?_ _) | (with_reducible refine Kd.C_drewN ?_ _) | (with_reducible refine Kd.C_drew ?_))); (case side4 => exact (Kd.R_reads' HO_7.out).2.1); (case side5 => exact Glob.below HG.out zb); rintro e w47 ⟨v623, rfl, ho0, hb⟩; refine ⟨_, rfl, ?_⟩; have n0_ := zh (Kd.R_below (zR HO_7) hb); have n1_ := zh (Kd.R_below (zR HO_619003) hb); have n2_ := zh (Kd.V_lower (Kd.V_mono (ok' := fun k_ => some k_ ≠ (.slice Ao46 t612.length co46 : Value).ownBlock ∧ some k_ ≠ (.slice Ao45 x619003_1.length co45 : Value).ownBlock ∧ k_ ≠ gb609 ∧ k_ ≠ gb617 ∧ k_ ≠ gb618) ho0 (fun k_ hk_ => ⟨(Kd.fresh' (Kd.R_lt (zR HO_7)) k_ hk_), (Kd.fresh' (Kd.R_lt (zR HO_619003)) k_ hk_), (Kd.freshB (g := gb609) (o := .cells #[.int .i64 a0_0, .int .i64 a0_1, .int .i64 a0_2, .slice (some ad616) l0_3.length c0_3] 24 (0, 0)) (zc BK609) k_ hk_), (Kd.freshB (g := gb617) (o := .cells #[.int .i64 ((rd_T66 l0_3 t615).f0), .int .i64 ((rd_T66 l0_3 t615).f1), .int .i64 ((rd_T66 l0_3 t615).f2), .int .i64 ((rd_T66 l0_3 t615).f3)] 66 (0, 0)) (zc BK617) k_ hk_), (Kd.freshB (g := gb618) (o := .cells #[.int .i64 a0_0, .int .i64 a0_1, .int .i64 a0_2, .slice Ao45 x619003_1.length co45] 24 (0, 0)) (zc BK618) k_ hk_)⟩)) (below_size zb)); have n3_ := zh (blk_below (g := gb609) (o := .cells #[.int .i64 a0_0, .int .i64 a0_1, .int .i64 a0_2, .slice (some ad616) l0_3.length c0_3] 24 (0, 0)) (zc BK609) hb); have n4_ := zh (blk_below (g := gb617) (o := .cells #[.int .i64 ((rd_T66 l0_3 t615).f0), .int .i64 ((rd_T66 l0_3 t615).f1), .int .i64 ((rd_T66 l0_3 t615).f2), .int .i64 ((rd_T66 l0_3 t615).f3)] 66 (0, 0)) (zc BK617) hb); have n5_ := zh (blk_below (g := gb618) (o := .cells #[.int .i64 a0_0, .int .i64 a0_1, .int .i64 a0_2, .slice Ao45 x619003_1.length co45] 24 (0, 0)) (zc BK618) hb); have n6_ := zh (below_step zb hb); clear HO_7; clear HO_619003; clear BK609; clear BK617; clear BK618; clear HB; have HO_7 := n0_; have HO_619003 := n1_; have HO624 := n2_; have BK609 := n3_; have BK617 := n4_; have BK618 := n5_; have HB := n6_; clear n0_ n1_ n2_ n3_ n4_ n5_ n6_; (try clear hb); (try clear hb2); (try clear hk); (try clear hi); (try clear ho0); have hcz48_0 : w47.cell? ⟨gb618, 0, none⟩ = some (.int .i64 a0_0) := vb BK618 0; have hcz48_1 : w47.cell? ⟨gb618, 1, none⟩ = some (.int .i64 a0_1) := vb BK618 1; have hcz48_2 : w47.cell? ⟨gb618, 2, none⟩ = some (.int .i64 a0_2) := vb BK618 2; have hcz48_3 : w47.cell? ⟨gb618, 3, none⟩ = some (.slice Ao45 x619003_1.length co45) := vb BK618 3; have hfz48_0 := blk_frozen BK618.out 0; have hfz48_1 := blk_frozen BK618.out 1; have hfz48_2 := blk_frozen BK618.out 2; have hfz48_3 := blk_frozen BK618.out 3) | ((with_reducible refine gate_callee (f := 16) rfl ?_); refine goesL_ (some 62) rfl rfl Tryd.func16 zk rfl #[.agg #[.int .i64 a0_0, .int .i64 a0_1, .int .i64 a0_2, .slice Ao45 x619003_1.length co45], .slice Ao46 t612.length co46, .int .i64 1] rfl zm ?_; (with_reducible refine (kernel_Part.calls a0_0 a0_1 a0_2 _ _ x619003_1 _ _ t612 1 t626 t629 _ ?side1 ?side2 ?side3 ?side4 ?side5 A38.out).mono ?_); (case side1 => repeat (first | exact (Kd.R_reads' HO_619003.out).2.2 | (with_reducible refine Kd.C_alloc ?_ _) | (with_reducible refine Kd.C_drewN ?_ _) | (with_reducible refine Kd.C_drew ?_))); (case side2 => exact (Kd.R_reads' HO_619003.out).2.1); (case side3 => repeat (first | exact (Kd.R_reads' HO_7.out).2.2 | (with_reducible refine Kd.C_alloc ?_ _) | (with_reducible refine Kd.C_drewN ?_ _) | (with_reducible refine Kd.C_drew ?_))); (case side4 => exact (Kd.R_reads' HO_7.out).2.1); (case side5 => exact Glob.below HG.out zb); rintro e w49 ⟨v627, rfl, ho0, hb⟩; refine ⟨_, rfl, ?_⟩; have n0_ := zh (Kd.R_below (zR HO_7) hb); have n1_ := zh (Kd.R_below (zR HO_619003) hb); have n2_ := zh (Kd.V_below (zV HO624) hb); have n3_ := zh (Kd.V_lower (Kd.V_mono (ok' := fun k_ => some k_ ≠ (.slice Ao46 t612.length co46 : Value).ownBlock ∧ some k_ ≠ (.slice Ao45 x619003_1.length co45 : Value).ownBlock ∧ k_ ≠ gb609 ∧ k_ ≠ gb617 ∧ k_ ≠ gb618) ho0 (fun k_ hk_ => ⟨(Kd.fresh' (Kd.R_lt (zR HO_7)) k_ hk_), (Kd.fresh' (Kd.R_lt (zR HO_619003)) k_ hk_), (Kd.freshB (g := gb609) (o := .cells #[.int .i64 a0_0, .int .i64 a0_1, .int .i64 a0_2, .slice (some ad616) l0_3.length c0_3] 24 (0, 0)) (zc BK609) k_ hk_), (Kd.freshB (g := gb617) (o := .cells #[.int .i64 ((rd_T66 l0_3 t615).f0), .int .i64 ((rd_T66 l0_3 t615).f1), .int .i64 ((rd_T66 l0_3 t615).f2), .int .i64 ((rd_T66 l0_3 t615).f3)] 66 (0, 0)) (zc BK617) k_ hk_), (Kd.freshB (g := gb618) (o := .cells #[.int .i64 a0_0, .int .i64 a0_1, .int .i64 a0_2, .slice Ao45 x619003_1.length co45] 24 (0, 0)) (zc BK618) k_ hk_)⟩)) (below_size zb)); have n4_ := zh (blk_below (g := gb609) (o := .cells #[.int .i64 a0_0, .int .i64 a0_1, .int .i64 a0_2, .slice (some ad616) l0_3.length c0_3] 24 (0, 0)) (zc BK609) hb); have n5_ := zh (blk_below (g := gb617) (o := .cells #[.int .i64 ((rd_T66 l0_3 t615).f0), .int .i64 ((rd_T66 l0_3 t615).f1), .int .i64 ((rd_T66 l0_3 t615).f2), .int .i64 ((rd_T66 l0_3 t615).f3)] 66 (0, 0)) (zc BK617) hb); have n6_ := zh (blk_below (g := gb618) (o := .cells #[.int .i64 a0_0, .int .i64 a0_1, .int .i64 a0_2, .slice Ao45 x619003_1.length co45] 24 (0, 0)) (zc BK618) hb); have n7_ := zh (below_step zb hb); clear HO_7; clear HO_619003; clear HO624; clear BK609; clear BK617; clear BK618; clear HB; have HO_7 := n0_; have HO_619003 := n1_; have HO624 := n2_; have HO628 := n3_; have BK609 := n4_; have BK617 := n5_; have BK618 := n6_; have HB := n7_; clear n0_ n1_ n2_ n3_ n4_ n5_ n6_ n7_; (try clear hb); (try clear hb2); (try clear hk); (try clear hi); (try clear ho0); have hcz50_0 : w49.cell? ⟨gb618, 0, none⟩ = some (.int .i64 a0_0) := vb BK618 0; have hcz50_1 : w49.cell? ⟨gb618, 1, none⟩ = some (.int .i64 a0_1) := vb BK618 1; have hcz50_2 : w49.cell? ⟨gb618, 2, none⟩ = some (.int .i64 a0_2) := vb BK618 2; have hcz50_3 : w49.cell? ⟨gb618, 3, none⟩ = some (.slice Ao45 x619003_1.length co45) := vb BK618 3; have hfz50_0 := blk_frozen BK618.out 0; have hfz50_1 := blk_frozen BK618.out 1; have hfz50_2 := blk_frozen BK618.out 2; have hfz50_3 := blk_frozen BK618.out 3) | ((with_reducible refine gate_callee (f := 16) rfl ?_); refine goesL_ (some 68) rfl rfl Tryd.func16 zk rfl #[.agg #[.int .i64 a0_0, .int .i64 a0_1, .int .i64 a0_2, .slice Ao45 x619003_1.length co45], .slice Ao46 t612.length co46, .int .i64 2] rfl zm ?_; (with_reducible refine (kernel_Part.calls a0_0 a0_1 a0_2 _ _ x619003_1 _ _ t612 2 t630 t633 _ ?side1 ?side2 ?side3 ?side4 ?side5 A39.out).mono ?_); (case side1 => repeat (first | exact (Kd.R_reads' HO_619003.out).2.2 | (with_reducible refine Kd.C_alloc ?_ _) | (with_reducible refine Kd.C_drewN ?_ _) | (with_reducible refine Kd.C_drew ?_))); (case side2 => exact (Kd.R_reads' HO_619003.out).2.1); (case side3 => repeat (first | exact (Kd.R_reads' HO_7.out).2.2 | (with_reducible refine Kd.C_alloc ?_ _) | (with_reducible refine Kd.C_drewN ?_ _) | (with_reducible refine Kd.C_drew ?_))); (case side4 => exact (Kd.R_reads' HO_7.out).2.1); (case side5 => exact Glob.below HG.out zb); rintro e w51 ⟨v631, rfl, ho0, hb⟩; refine ⟨_, rfl, ?_⟩; have n0_ := zh (Kd.R_below (zR HO_7) hb); have n1_ := zh (Kd.R_below (zR HO_619003) hb); have n2_ := zh (Kd.V_below (zV HO624) hb); have n3_ := zh (Kd.V_below (zV HO628) hb); have n4_ := zh (Kd.V_lower (Kd.V_mono (ok' := fun k_ => some k_ ≠ (.slice Ao46 t612.length co46 : Value).ownBlock ∧ some k_ ≠ (.slice Ao45 x619003_1.length co45 : Value).ownBlock ∧ k_ ≠ gb609 ∧ k_ ≠ gb617 ∧ k_ ≠ gb618) ho0 (fun k_ hk_ => ⟨(Kd.fresh' (Kd.R_lt (zR HO_7)) k_ hk_), (Kd.fresh' (Kd.R_lt (zR HO_619003)) k_ hk_), (Kd.freshB (g := gb609) (o := .cells #[.int .i64 a0_0, .int .i64 a0_1, .int .i64 a0_2, .slice (some ad616) l0_3.length c0_3] 24 (0, 0)) (zc BK609) k_ hk_), (Kd.freshB (g := gb617) (o := .cells #[.int .i64 ((rd_T66 l0_3 t615).f0), .int .i64 ((rd_T66 l0_3 t615).f1), .int .i64 ((rd_T66 l0_3 t615).f2), .int .i64 ((rd_T66 l0_3 t615).f3)] 66 (0, 0)) (zc BK617) k_ hk_), (Kd.freshB (g := gb618) (o := .cells #[.int .i64 a0_0, .int .i64 a0_1, .int .i64 a0_2, .slice Ao45 x619003_1.length co45] 24 (0, 0)) (zc BK618) k_ hk_)⟩)) (below_size zb)); have n5_ := zh (blk_below (g := gb609) (o := .cells #[.int .i64 a0_0, .int .i64 a0_1, .int .i64 a0_2, .slice (some ad616) l0_3.length c0_3] 24 (0, 0)) (zc BK609) hb); have n6_ := zh (blk_below (g := gb617) (o := .cells #[.int .i64 ((rd_T66 l0_3 t615).f0), .int .i64 ((rd_T66 l0_3 t615).f1), .int .i64 ((rd_T66 l0_3 t615).f2), .int .i64 ((rd_T66 l0_3 t615).f3)] 66 (0, 0)) (zc BK617) hb); have n7_ := zh (blk_below (g := gb618) (o := .cells #[.int .i64 a0_0, .int .i64 a0_1, .int .i64 a0_2, .slice Ao45 x619003_1.length co45] 24 (0, 0)) (zc BK618) hb); have n8_ := zh (below_step zb hb); clear HO_7; clear HO_619003; clear HO624; clear HO628; clear BK609; clear BK617; clear BK618; clear HB; have HO_7 := n0_; have HO_619003 := n1_; have HO624 := n2_; have HO628 := n3_; have HO632 := n4_; have BK609 := n5_; have BK617 := n6_; have BK618 := n7_; have HB := n8_; clear n0_ n1_ n2_ n3_ n4_ n5_ n6_ n7_ n8_; (try clear hb); (try clear hb2); (try clear hk); (try clear hi); (try clear ho0); have hcz52_0 : w51.cell? ⟨gb618, 0, none⟩ = some (.int .i64 a0_0) := vb BK618 0; have hcz52_1 : w51.cell? ⟨gb618, 1, none⟩ = some (.int .i64 a0_1) := vb BK618 1; have hcz52_2 : w51.cell? ⟨gb618, 2, none⟩ = some (.int .i64 a0_2) := vb BK618 2; have hcz52_3 : w51.cell? ⟨gb618, 3, none⟩ = some (.slice Ao45 x619003_1.length co45) := vb BK618 3; have hfz52_0 := blk_frozen BK618.out 0; have hfz52_1 := blk_frozen BK618.out 1; have hfz52_2 := blk_frozen BK618.out 2; have hfz52_3 := blk_frozen BK618.out 3) | ((with_reducible refine gate_callee (f := 16) rfl ?_); refine goesL_ (some 74) rfl rfl Tryd.func16 zk rfl #[.agg #[.int .i64 a0_0, .int .i64 a0_1, .int .i64 a0_2, .slice Ao45 x619003_1.length co45], .slice Ao46 t612.length co46, .int .i64 3] rfl zm ?_; (with_reducible refine (kernel_Part.calls a0_0 a0_1 a0_2 _ _ x619003_1 _ _ t612 3 t634 t637 _ ?side1 ?side2 ?side3 ?side4 ?side5 A40.out).mono ?_); (case side1 => repeat (first | exact (Kd.R_reads' HO_619003.out).2.2 | (with_reducible refine Kd.C_alloc ?_ _) | (with_reducible refine Kd.C_drewN ?_ _) | (with_reducible refine Kd.C_drew ?_))); (case side2 => exact (Kd.R_reads' HO_619003.out).2.1); (case side3 => repeat (first | exact (Kd.R_reads' HO_7.out).2.2 | (with_reducible refine Kd.C_alloc ?_ _) | (with_reducible refine Kd.C_drewN ?_ _) | (with_reducible refine Kd.C_drew ?_))); (case side4 => exact (Kd.R_reads' HO_7.out).2.1); (case side5 => exact Glob.below HG.out zb); rintro e w53 ⟨v635, rfl, ho0, hb⟩; refine ⟨_, rfl, ?_⟩; have n0_ := zh (Kd.R_below (zR HO_7) hb); have n1_ := zh (Kd.R_below (zR HO_619003) hb); have n2_ := zh (Kd.V_below (zV HO624) hb); have n3_ := zh (Kd.V_below (zV HO628) hb); have n4_ := zh (Kd.V_below (zV HO632) hb); have n5_ := zh (Kd.V_lower (Kd.V_mono (ok' := fun k_ => some k_ ≠ (.slice Ao46 t612.length co46 : Value).ownBlock ∧ some k_ ≠ (.slice Ao45 x619003_1.length co45 : Value).ownBlock ∧ k_ ≠ gb609 ∧ k_ ≠ gb617 ∧ k_ ≠ gb618) ho0 (fun k_ hk_ => ⟨(Kd.fresh' (Kd.R_lt (zR HO_7)) k_ hk_), (Kd.fresh' (Kd.R_lt (zR HO_619003)) k_ hk_), (Kd.freshB (g := gb609) (o := .cells #[.int .i64 a0_0, .int .i64 a0_1, .int .i64 a0_2, .slice (some ad616) l0_3.length c0_3] 24 (0, 0)) (zc BK609) k_ hk_), (Kd.freshB (g := gb617) (o := .cells #[.int .i64 ((rd_T66 l0_3 t615).f0), .int .i64 ((rd_T66 l0_3 t615).f1), .int .i64 ((rd_T66 l0_3 t615).f2), .int .i64 ((rd_T66 l0_3 t615).f3)] 66 (0, 0)) (zc BK617) k_ hk_), (Kd.freshB (g := gb618) (o := .cells #[.int .i64 a0_0, .int .i64 a0_1, .int .i64 a0_2, .slice Ao45 x619003_1.length co45] 24 (0, 0)) (zc BK618) k_ hk_)⟩)) (below_size zb)); have n6_ := zh (blk_below (g := gb609) (o := .cells #[.int .i64 a0_0, .int .i64 a0_1, .int .i64 a0_2, .slice (some ad616) l0_3.length c0_3] 24 (0, 0)) (zc BK609) hb); have n7_ := zh (blk_below (g := gb617) (o := .cells #[.int .i64 ((rd_T66 l0_3 t615).f0), .int .i64 ((rd_T66 l0_3 t615).f1), .int .i64 ((rd_T66 l0_3 t615).f2), .int .i64 ((rd_T66 l0_3 t615).f3)] 66 (0, 0)) (zc BK617) hb); have n8_ := zh (blk_below (g := gb618) (o := .cells #[.int .i64 a0_0, .int .i64 a0_1, .int .i64 a0_2, .slice Ao45 x619003_1.length co45] 24 (0, 0)) (zc BK618) hb); have n9_ := zh (below_step zb hb); clear HO_7; clear HO_619003; clear HO624; clear HO628; clear HO632; clear BK609; clear BK617; clear BK618; clear HB; have HO_7 := n0_; have HO_619003 := n1_; have HO624 := n2_; have HO628 := n3_; have HO632 := n4_; have HO636 := n5_; have BK609 := n6_; have BK617 := n7_; have BK618 := n8_; have HB := n9_; clear n0_ n1_ n2_ n3_ n4_ n5_ n6_ n7_ n8_ n9_; (try clear hb); (try clear hb2); (try clear hk); (try clear hi); (try clear ho0)))
        (try simp only [Act.put, List.setIfInBounds_toArray, List.set_cons_zero, List.set_cons_succ])
        go_cut [121] (fun v121 wc => ∃ (kq : Nat) (x121_40 : Bool), v121 = .bool x121_40 ∧ Aside0 (saronlaw06_KernelDoubled.j1 kq t622 t626 t630 t634 x121_40 = some r) ∧ Aside0 (kq ≤ k1) ∧ Aside0 (Kd.V (Kd.int .i64) 3 wc w.heap.size (fun k_ => some k_ ≠ ((.slice Ao45 x619003_1.length co45) : Value).ownBlock ∧ k_ ≠ gb609 ∧ k_ ≠ gb617 ∧ k_ ≠ gb618) v623 t622) ∧ Aside0 (Kd.V (Kd.int .i64) 3 wc w.heap.size (fun k_ => some k_ ≠ ((.slice Ao45 x619003_1.length co45) : Value).ownBlock ∧ k_ ≠ gb609 ∧ k_ ≠ gb617 ∧ k_ ≠ gb618) v627 t626) ∧ Aside0 (Kd.V (Kd.int .i64) 3 wc w.heap.size (fun k_ => some k_ ≠ ((.slice Ao45 x619003_1.length co45) : Value).ownBlock ∧ k_ ≠ gb609 ∧ k_ ≠ gb617 ∧ k_ ≠ gb618) v631 t630) ∧ Aside0 (Kd.V (Kd.int .i64) 3 wc w.heap.size (fun k_ => some k_ ≠ ((.slice Ao45 x619003_1.length co45) : Value).ownBlock ∧ k_ ≠ gb609 ∧ k_ ≠ gb617 ∧ k_ ≠ gb618) v635 t634) ∧ Aside0 (Kd.R k66 66 wc w.heap.size (fun k_ => k_ ≠ gb617) (.slice Ao45 x619003_1.length co45) x619003_1) ∧ Aside0 (wc.heap[gb609]? = some (.cells #[.int .i64 a0_0, .int .i64 a0_1, .int .i64 a0_2, (.slice (some ad616) l0_3.length c0_3)] 24 (0, 0))) ∧ Aside0 (wc.heap[gb617]? = some (.cells #[.int .i64 ((rd_T66 l0_3 t615).f0), .int .i64 ((rd_T66 l0_3 t615).f1), .int .i64 ((rd_T66 l0_3 t615).f2), .int .i64 ((rd_T66 l0_3 t615).f3)] 66 (0, 0))) ∧ Aside0 (wc.heap[gb618]? = some (.cells #[.int .i64 a0_0, .int .i64 a0_1, .int .i64 a0_2, (.slice Ao45 x619003_1.length co45)] 24 (0, 0))) ∧ Aside0 (Below w.heap.size w wc))
        case first =>
         as_aux_lemma =>
          have H := HC41.out
          clear HC41
          by_cases c54 : t625 = 0
          ·rw [if_pos c54] at H
           have c54b0 : (t625 == 0) = true := beq_iff_eq.mpr c54
           have c54b1 : (t625 != 0) = false := bne_eq_false_iff_eq.mpr c54
           clear c54
           (first | rw [c54b0] | (simp only [i64_w, i32_w]; rw [c54b0]) | skip)
           by_cases c55 : t629 = 0
           ·rw [if_pos c55] at H
            have c55b0 : (t629 == 0) = true := beq_iff_eq.mpr c55
            have c55b1 : (t629 != 0) = false := bne_eq_false_iff_eq.mpr c55
            clear c55
            by_cases c56 : t633 = 0
            ·rw [if_pos c56] at H
             have c56b0 : (t633 == 0) = true := beq_iff_eq.mpr c56
             have c56b1 : (t633 != 0) = false := bne_eq_false_iff_eq.mpr c56
             clear c56
             by_cases c57 : t637 = 0
             ·rw [if_pos c57] at H
              have c57b0 : (t637 == 0) = true := beq_iff_eq.mpr c57
              have c57b1 : (t637 != 0) = false := bne_eq_false_iff_eq.mpr c57
              clear c57
              by_cases c58 : (t626.length : Int) = a0_2
              ·rw [if_pos c58] at H
               have c58b0 : ((t626.length : Int) == a0_2) = true := beq_iff_eq.mpr c58
               have c58b1 : ((t626.length : Int) != a0_2) = false := bne_eq_false_iff_eq.mpr c58
               clear c58
               by_cases c59 : (t622.length : Int) = (wrap64 (Int.tdiv a0_2 2))
               ·rw [if_pos c59] at H
                have c59b0 : ((t622.length : Int) == (wrap64 (Int.tdiv a0_2 2))) = true := beq_iff_eq.mpr c59
                have c59b1 : ((t622.length : Int) != (wrap64 (Int.tdiv a0_2 2))) = false := bne_eq_false_iff_eq.mpr c59
                clear c59
                by_cases c60 : (t630.length : Int) = (wrap64 (2 * a0_2))
                ·rw [if_pos c60] at H
                 have c60b0 : ((t630.length : Int) == (wrap64 (2 * a0_2))) = true := beq_iff_eq.mpr c60
                 have c60b1 : ((t630.length : Int) != (wrap64 (2 * a0_2))) = false := bne_eq_false_iff_eq.mpr c60
                 clear c60
                 have H' := zh H
                 clear H
                 obtain ⟨Ao61, co61, eo61⟩ := Kd.V_slice HO628.out
                 subst eo61
                 have hnb62 := NB609_617.out
                 have hnc62 := NB617_609.out
                 have hnb63 := NB609_618.out
                 have hnc63 := NB618_609.out
                 have hcz64_0 : w53.cell? ⟨gb609, 0, none⟩ = some (.int .i64 a0_0) := vb BK609 0
                 have hcz64_1 : w53.cell? ⟨gb609, 1, none⟩ = some (.int .i64 a0_1) := vb BK609 1
                 have hcz64_2 : w53.cell? ⟨gb609, 2, none⟩ = some (.int .i64 a0_2) := vb BK609 2
                 have hcz64_3 : w53.cell? ⟨gb609, 3, none⟩ = some (.slice (some ad616) l0_3.length c0_3) := vb BK609 3
                 have hfz64_0 := blk_frozen BK609.out 0
                 have hfz64_1 := blk_frozen BK609.out 1
                 have hfz64_2 := blk_frozen BK609.out 2
                 have hfz64_3 := blk_frozen BK609.out 3
                 obtain ⟨Ao65, co65, eo65⟩ := Kd.V_slice HO624.out
                 subst eo65
                 obtain ⟨Ao66, co66, eo66⟩ := Kd.V_slice HO632.out
                 subst eo66
                 obtain ⟨Ao67, co67, eo67⟩ := Kd.V_slice HO636.out
                 subst eo67
                 go_wp2
                 go_meet
                 case rel => exact ⟨_, (((t634.length : Int) != (wrap64 (2 * a0_2)))), ze, H', ⟨by have := HK1.out; first | omega | exact Nat.le_refl _⟩, ⟨by (with_reducible repeat (first | apply Kd.V_alloc | apply Kd.V_drewN | apply Kd.V_drew)); exact Kd.V_mono HO624.out (fun _ hk => ⟨hk.2.1, ⟨hk.2.2.1, ⟨hk.2.2.2.1, hk.2.2.2.2⟩⟩⟩)⟩, ⟨by (with_reducible repeat (first | apply Kd.V_alloc | apply Kd.V_drewN | apply Kd.V_drew)); exact Kd.V_mono HO628.out (fun _ hk => ⟨hk.2.1, ⟨hk.2.2.1, ⟨hk.2.2.2.1, hk.2.2.2.2⟩⟩⟩)⟩, ⟨by (with_reducible repeat (first | apply Kd.V_alloc | apply Kd.V_drewN | apply Kd.V_drew)); exact Kd.V_mono HO632.out (fun _ hk => ⟨hk.2.1, ⟨hk.2.2.1, ⟨hk.2.2.2.1, hk.2.2.2.2⟩⟩⟩)⟩, ⟨by (with_reducible repeat (first | apply Kd.V_alloc | apply Kd.V_drewN | apply Kd.V_drew)); exact Kd.V_mono HO636.out (fun _ hk => ⟨hk.2.1, ⟨hk.2.2.1, ⟨hk.2.2.2.1, hk.2.2.2.2⟩⟩⟩)⟩, ⟨zR HO_619003⟩, ⟨zc BK609⟩, ⟨zc BK617⟩, ⟨zc BK618⟩, ⟨zb⟩⟩
                ·rw [if_neg c60] at H
                 have c60b0 : ((t630.length : Int) == (wrap64 (2 * a0_2))) = false := beq_eq_false_iff_ne.mpr c60
                 have c60b1 : ((t630.length : Int) != (wrap64 (2 * a0_2))) = true := bne_iff_ne.mpr c60
                 have H' := zh H
                 clear H
                 obtain ⟨Ao68, co68, eo68⟩ := Kd.V_slice HO628.out
                 subst eo68
                 have hnb69 := NB609_617.out
                 have hnc69 := NB617_609.out
                 have hnb70 := NB609_618.out
                 have hnc70 := NB618_609.out
                 have hcz71_0 : w53.cell? ⟨gb609, 0, none⟩ = some (.int .i64 a0_0) := vb BK609 0
                 have hcz71_1 : w53.cell? ⟨gb609, 1, none⟩ = some (.int .i64 a0_1) := vb BK609 1
                 have hcz71_2 : w53.cell? ⟨gb609, 2, none⟩ = some (.int .i64 a0_2) := vb BK609 2
                 have hcz71_3 : w53.cell? ⟨gb609, 3, none⟩ = some (.slice (some ad616) l0_3.length c0_3) := vb BK609 3
                 have hfz71_0 := blk_frozen BK609.out 0
                 have hfz71_1 := blk_frozen BK609.out 1
                 have hfz71_2 := blk_frozen BK609.out 2
                 have hfz71_3 := blk_frozen BK609.out 3
                 obtain ⟨Ao72, co72, eo72⟩ := Kd.V_slice HO624.out
                 subst eo72
                 obtain ⟨Ao73, co73, eo73⟩ := Kd.V_slice HO632.out
                 subst eo73
                 go_wp2
                 go_meet
                 case rel => exact ⟨_, (true), ze, H', ⟨by have := HK1.out; first | omega | exact Nat.le_refl _⟩, ⟨by (with_reducible repeat (first | apply Kd.V_alloc | apply Kd.V_drewN | apply Kd.V_drew)); exact Kd.V_mono HO624.out (fun _ hk => ⟨hk.2.1, ⟨hk.2.2.1, ⟨hk.2.2.2.1, hk.2.2.2.2⟩⟩⟩)⟩, ⟨by (with_reducible repeat (first | apply Kd.V_alloc | apply Kd.V_drewN | apply Kd.V_drew)); exact Kd.V_mono HO628.out (fun _ hk => ⟨hk.2.1, ⟨hk.2.2.1, ⟨hk.2.2.2.1, hk.2.2.2.2⟩⟩⟩)⟩, ⟨by (with_reducible repeat (first | apply Kd.V_alloc | apply Kd.V_drewN | apply Kd.V_drew)); exact Kd.V_mono HO632.out (fun _ hk => ⟨hk.2.1, ⟨hk.2.2.1, ⟨hk.2.2.2.1, hk.2.2.2.2⟩⟩⟩)⟩, ⟨by (with_reducible repeat (first | apply Kd.V_alloc | apply Kd.V_drewN | apply Kd.V_drew)); exact Kd.V_mono HO636.out (fun _ hk => ⟨hk.2.1, ⟨hk.2.2.1, ⟨hk.2.2.2.1, hk.2.2.2.2⟩⟩⟩)⟩, ⟨zR HO_619003⟩, ⟨zc BK609⟩, ⟨zc BK617⟩, ⟨zc BK618⟩, ⟨zb⟩⟩
               ·rw [if_neg c59] at H
                have c59b0 : ((t622.length : Int) == (wrap64 (Int.tdiv a0_2 2))) = false := beq_eq_false_iff_ne.mpr c59
                have c59b1 : ((t622.length : Int) != (wrap64 (Int.tdiv a0_2 2))) = true := bne_iff_ne.mpr c59
                have H' := zh H
                clear H
                obtain ⟨Ao74, co74, eo74⟩ := Kd.V_slice HO628.out
                subst eo74
                have hnb75 := NB609_617.out
                have hnc75 := NB617_609.out
                have hnb76 := NB609_618.out
                have hnc76 := NB618_609.out
                have hcz77_0 : w53.cell? ⟨gb609, 0, none⟩ = some (.int .i64 a0_0) := vb BK609 0
                have hcz77_1 : w53.cell? ⟨gb609, 1, none⟩ = some (.int .i64 a0_1) := vb BK609 1
                have hcz77_2 : w53.cell? ⟨gb609, 2, none⟩ = some (.int .i64 a0_2) := vb BK609 2
                have hcz77_3 : w53.cell? ⟨gb609, 3, none⟩ = some (.slice (some ad616) l0_3.length c0_3) := vb BK609 3
                have hfz77_0 := blk_frozen BK609.out 0
                have hfz77_1 := blk_frozen BK609.out 1
                have hfz77_2 := blk_frozen BK609.out 2
                have hfz77_3 := blk_frozen BK609.out 3
                obtain ⟨Ao78, co78, eo78⟩ := Kd.V_slice HO624.out
                subst eo78
                go_wp2
                go_meet
                case rel => exact ⟨_, (true), ze, H', ⟨by have := HK1.out; first | omega | exact Nat.le_refl _⟩, ⟨by (with_reducible repeat (first | apply Kd.V_alloc | apply Kd.V_drewN | apply Kd.V_drew)); exact Kd.V_mono HO624.out (fun _ hk => ⟨hk.2.1, ⟨hk.2.2.1, ⟨hk.2.2.2.1, hk.2.2.2.2⟩⟩⟩)⟩, ⟨by (with_reducible repeat (first | apply Kd.V_alloc | apply Kd.V_drewN | apply Kd.V_drew)); exact Kd.V_mono HO628.out (fun _ hk => ⟨hk.2.1, ⟨hk.2.2.1, ⟨hk.2.2.2.1, hk.2.2.2.2⟩⟩⟩)⟩, ⟨by (with_reducible repeat (first | apply Kd.V_alloc | apply Kd.V_drewN | apply Kd.V_drew)); exact Kd.V_mono HO632.out (fun _ hk => ⟨hk.2.1, ⟨hk.2.2.1, ⟨hk.2.2.2.1, hk.2.2.2.2⟩⟩⟩)⟩, ⟨by (with_reducible repeat (first | apply Kd.V_alloc | apply Kd.V_drewN | apply Kd.V_drew)); exact Kd.V_mono HO636.out (fun _ hk => ⟨hk.2.1, ⟨hk.2.2.1, ⟨hk.2.2.2.1, hk.2.2.2.2⟩⟩⟩)⟩, ⟨zR HO_619003⟩, ⟨zc BK609⟩, ⟨zc BK617⟩, ⟨zc BK618⟩, ⟨zb⟩⟩
              ·rw [if_neg c58] at H
               have c58b0 : ((t626.length : Int) == a0_2) = false := beq_eq_false_iff_ne.mpr c58
               have c58b1 : ((t626.length : Int) != a0_2) = true := bne_iff_ne.mpr c58
               have H' := zh H
               clear H
               obtain ⟨Ao79, co79, eo79⟩ := Kd.V_slice HO628.out
               subst eo79
               have hnb80 := NB609_617.out
               have hnc80 := NB617_609.out
               have hnb81 := NB609_618.out
               have hnc81 := NB618_609.out
               have hcz82_0 : w53.cell? ⟨gb609, 0, none⟩ = some (.int .i64 a0_0) := vb BK609 0
               have hcz82_1 : w53.cell? ⟨gb609, 1, none⟩ = some (.int .i64 a0_1) := vb BK609 1
               have hcz82_2 : w53.cell? ⟨gb609, 2, none⟩ = some (.int .i64 a0_2) := vb BK609 2
               have hcz82_3 : w53.cell? ⟨gb609, 3, none⟩ = some (.slice (some ad616) l0_3.length c0_3) := vb BK609 3
               have hfz82_0 := blk_frozen BK609.out 0
               have hfz82_1 := blk_frozen BK609.out 1
               have hfz82_2 := blk_frozen BK609.out 2
               have hfz82_3 := blk_frozen BK609.out 3
               go_wp2
               go_meet
               case rel => exact ⟨_, (true), ze, H', ⟨by have := HK1.out; first | omega | exact Nat.le_refl _⟩, ⟨by (with_reducible repeat (first | apply Kd.V_alloc | apply Kd.V_drewN | apply Kd.V_drew)); exact Kd.V_mono HO624.out (fun _ hk => ⟨hk.2.1, ⟨hk.2.2.1, ⟨hk.2.2.2.1, hk.2.2.2.2⟩⟩⟩)⟩, ⟨by (with_reducible repeat (first | apply Kd.V_alloc | apply Kd.V_drewN | apply Kd.V_drew)); exact Kd.V_mono HO628.out (fun _ hk => ⟨hk.2.1, ⟨hk.2.2.1, ⟨hk.2.2.2.1, hk.2.2.2.2⟩⟩⟩)⟩, ⟨by (with_reducible repeat (first | apply Kd.V_alloc | apply Kd.V_drewN | apply Kd.V_drew)); exact Kd.V_mono HO632.out (fun _ hk => ⟨hk.2.1, ⟨hk.2.2.1, ⟨hk.2.2.2.1, hk.2.2.2.2⟩⟩⟩)⟩, ⟨by (with_reducible repeat (first | apply Kd.V_alloc | apply Kd.V_drewN | apply Kd.V_drew)); exact Kd.V_mono HO636.out (fun _ hk => ⟨hk.2.1, ⟨hk.2.2.1, ⟨hk.2.2.2.1, hk.2.2.2.2⟩⟩⟩)⟩, ⟨zR HO_619003⟩, ⟨zc BK609⟩, ⟨zc BK617⟩, ⟨zc BK618⟩, ⟨zb⟩⟩
             ·rw [if_neg c57] at H
              have c57b0 : (t637 == 0) = false := beq_eq_false_iff_ne.mpr c57
              have c57b1 : (t637 != 0) = true := bne_iff_ne.mpr c57
              have H' := zh H
              clear H
              go_wp2
              go_meet
              case rel => exact ⟨_, (true), ze, H', ⟨by have := HK1.out; first | omega | exact Nat.le_refl _⟩, ⟨by (with_reducible repeat (first | apply Kd.V_alloc | apply Kd.V_drewN | apply Kd.V_drew)); exact Kd.V_mono HO624.out (fun _ hk => ⟨hk.2.1, ⟨hk.2.2.1, ⟨hk.2.2.2.1, hk.2.2.2.2⟩⟩⟩)⟩, ⟨by (with_reducible repeat (first | apply Kd.V_alloc | apply Kd.V_drewN | apply Kd.V_drew)); exact Kd.V_mono HO628.out (fun _ hk => ⟨hk.2.1, ⟨hk.2.2.1, ⟨hk.2.2.2.1, hk.2.2.2.2⟩⟩⟩)⟩, ⟨by (with_reducible repeat (first | apply Kd.V_alloc | apply Kd.V_drewN | apply Kd.V_drew)); exact Kd.V_mono HO632.out (fun _ hk => ⟨hk.2.1, ⟨hk.2.2.1, ⟨hk.2.2.2.1, hk.2.2.2.2⟩⟩⟩)⟩, ⟨by (with_reducible repeat (first | apply Kd.V_alloc | apply Kd.V_drewN | apply Kd.V_drew)); exact Kd.V_mono HO636.out (fun _ hk => ⟨hk.2.1, ⟨hk.2.2.1, ⟨hk.2.2.2.1, hk.2.2.2.2⟩⟩⟩)⟩, ⟨zR HO_619003⟩, ⟨zc BK609⟩, ⟨zc BK617⟩, ⟨zc BK618⟩, ⟨zb⟩⟩
            ·rw [if_neg c56] at H
             have c56b0 : (t633 == 0) = false := beq_eq_false_iff_ne.mpr c56
             have c56b1 : (t633 != 0) = true := bne_iff_ne.mpr c56
             have H' := zh H
             clear H
             go_wp2
             go_meet
             case rel => exact ⟨_, (true), ze, H', ⟨by have := HK1.out; first | omega | exact Nat.le_refl _⟩, ⟨by (with_reducible repeat (first | apply Kd.V_alloc | apply Kd.V_drewN | apply Kd.V_drew)); exact Kd.V_mono HO624.out (fun _ hk => ⟨hk.2.1, ⟨hk.2.2.1, ⟨hk.2.2.2.1, hk.2.2.2.2⟩⟩⟩)⟩, ⟨by (with_reducible repeat (first | apply Kd.V_alloc | apply Kd.V_drewN | apply Kd.V_drew)); exact Kd.V_mono HO628.out (fun _ hk => ⟨hk.2.1, ⟨hk.2.2.1, ⟨hk.2.2.2.1, hk.2.2.2.2⟩⟩⟩)⟩, ⟨by (with_reducible repeat (first | apply Kd.V_alloc | apply Kd.V_drewN | apply Kd.V_drew)); exact Kd.V_mono HO632.out (fun _ hk => ⟨hk.2.1, ⟨hk.2.2.1, ⟨hk.2.2.2.1, hk.2.2.2.2⟩⟩⟩)⟩, ⟨by (with_reducible repeat (first | apply Kd.V_alloc | apply Kd.V_drewN | apply Kd.V_drew)); exact Kd.V_mono HO636.out (fun _ hk => ⟨hk.2.1, ⟨hk.2.2.1, ⟨hk.2.2.2.1, hk.2.2.2.2⟩⟩⟩)⟩, ⟨zR HO_619003⟩, ⟨zc BK609⟩, ⟨zc BK617⟩, ⟨zc BK618⟩, ⟨zb⟩⟩
           ·rw [if_neg c55] at H
            have c55b0 : (t629 == 0) = false := beq_eq_false_iff_ne.mpr c55
            have c55b1 : (t629 != 0) = true := bne_iff_ne.mpr c55
            have H' := zh H
            clear H
            go_wp2
            go_meet
            case rel => exact ⟨_, (true), ze, H', ⟨by have := HK1.out; first | omega | exact Nat.le_refl _⟩, ⟨by (with_reducible repeat (first | apply Kd.V_alloc | apply Kd.V_drewN | apply Kd.V_drew)); exact Kd.V_mono HO624.out (fun _ hk => ⟨hk.2.1, ⟨hk.2.2.1, ⟨hk.2.2.2.1, hk.2.2.2.2⟩⟩⟩)⟩, ⟨by (with_reducible repeat (first | apply Kd.V_alloc | apply Kd.V_drewN | apply Kd.V_drew)); exact Kd.V_mono HO628.out (fun _ hk => ⟨hk.2.1, ⟨hk.2.2.1, ⟨hk.2.2.2.1, hk.2.2.2.2⟩⟩⟩)⟩, ⟨by (with_reducible repeat (first | apply Kd.V_alloc | apply Kd.V_drewN | apply Kd.V_drew)); exact Kd.V_mono HO632.out (fun _ hk => ⟨hk.2.1, ⟨hk.2.2.1, ⟨hk.2.2.2.1, hk.2.2.2.2⟩⟩⟩)⟩, ⟨by (with_reducible repeat (first | apply Kd.V_alloc | apply Kd.V_drewN | apply Kd.V_drew)); exact Kd.V_mono HO636.out (fun _ hk => ⟨hk.2.1, ⟨hk.2.2.1, ⟨hk.2.2.2.1, hk.2.2.2.2⟩⟩⟩)⟩, ⟨zR HO_619003⟩, ⟨zc BK609⟩, ⟨zc BK617⟩, ⟨zc BK618⟩, ⟨zb⟩⟩
          ·rw [if_neg c54] at H
           have c54b0 : (t625 == 0) = false := beq_eq_false_iff_ne.mpr c54
           have c54b1 : (t625 != 0) = true := bne_iff_ne.mpr c54
           (first | rw [c54b0] | (simp only [i64_w, i32_w]; rw [c54b0]) | skip)
           have H' := zh H
           clear H
           go_wp2
           go_meet
           case rel => exact ⟨_, (true), ze, H', ⟨by have := HK1.out; first | omega | exact Nat.le_refl _⟩, ⟨by (with_reducible repeat (first | apply Kd.V_alloc | apply Kd.V_drewN | apply Kd.V_drew)); exact Kd.V_mono HO624.out (fun _ hk => ⟨hk.2.1, ⟨hk.2.2.1, ⟨hk.2.2.2.1, hk.2.2.2.2⟩⟩⟩)⟩, ⟨by (with_reducible repeat (first | apply Kd.V_alloc | apply Kd.V_drewN | apply Kd.V_drew)); exact Kd.V_mono HO628.out (fun _ hk => ⟨hk.2.1, ⟨hk.2.2.1, ⟨hk.2.2.2.1, hk.2.2.2.2⟩⟩⟩)⟩, ⟨by (with_reducible repeat (first | apply Kd.V_alloc | apply Kd.V_drewN | apply Kd.V_drew)); exact Kd.V_mono HO632.out (fun _ hk => ⟨hk.2.1, ⟨hk.2.2.1, ⟨hk.2.2.2.1, hk.2.2.2.2⟩⟩⟩)⟩, ⟨by (with_reducible repeat (first | apply Kd.V_alloc | apply Kd.V_drewN | apply Kd.V_drew)); exact Kd.V_mono HO636.out (fun _ hk => ⟨hk.2.1, ⟨hk.2.2.1, ⟨hk.2.2.2.1, hk.2.2.2.2⟩⟩⟩)⟩, ⟨zR HO_619003⟩, ⟨zc BK609⟩, ⟨zc BK617⟩, ⟨zc BK618⟩, ⟨zb⟩⟩
        case rest =>
         as_aux_lemma =>
          clear HC41
          try clear c1
          try clear c2
          try clear p2
          try clear c3
          try clear c4
          try clear c5
          try clear c6
          try clear p6
          try clear q6
          try clear hx6
          try clear c7
          try clear c8
          try clear c8b0
          try clear c9
          try clear c9b0
          try clear c10
          try clear c16
          try clear c21
          try clear c24
          try clear c25
          try clear c27
          try clear c27b0
          try clear c28
          try clear c29
          try clear c30
          try clear c32
          try clear c40
          try clear c42
          try clear c43
          try clear c54
          try clear c54b0
          try clear c54b1
          try clear c55
          try clear c55b0
          try clear c55b1
          try clear c56
          try clear c56b0
          try clear c56b1
          try clear c57
          try clear c57b0
          try clear c57b1
          try clear c58
          try clear c58b0
          try clear c58b1
          try clear c59
          try clear c59b0
          try clear c59b1
          try clear c60
          try clear c60b0
          try clear c60b1
          try clear p61
          try clear q61
          try clear hx61
          try clear c62
          try clear c63
          try clear p64
          try clear c69
          try clear c70
          try clear c75
          try clear c76
          try clear c80
          try clear c81
          try clear hcz11_0
          try clear hcz11_1
          try clear hcz11_2
          try clear hcz11_3
          try clear hcz22_0
          try clear hcz22_1
          try clear hcz22_2
          try clear hcz22_3
          try clear hcz26_0
          try clear hcz26_1
          try clear hcz26_2
          try clear hcz26_3
          try clear hcz31_0
          try clear hcz31_1
          try clear hcz31_2
          try clear hcz31_3
          try clear hcz33_0
          try clear hcz33_1
          try clear hcz33_2
          try clear hcz33_3
          try clear hcz36_0
          try clear hcz36_1
          try clear hcz36_2
          try clear hcz36_3
          try clear hcz44_0
          try clear hcz44_1
          try clear hcz44_2
          try clear hcz44_3
          try clear hcz48_0
          try clear hcz48_1
          try clear hcz48_2
          try clear hcz48_3
          try clear hcz50_0
          try clear hcz50_1
          try clear hcz50_2
          try clear hcz50_3
          try clear hcz52_0
          try clear hcz52_1
          try clear hcz52_2
          try clear hcz52_3
          try clear hcz64_0
          try clear hcz64_1
          try clear hcz64_2
          try clear hcz64_3
          try clear hcz71_0
          try clear hcz71_1
          try clear hcz71_2
          try clear hcz71_3
          try clear hcz77_0
          try clear hcz77_1
          try clear hcz77_2
          try clear hcz77_3
          try clear hcz82_0
          try clear hcz82_1
          try clear hcz82_2
          try clear hcz82_3
          try clear hfz11_0
          try clear hfz11_1
          try clear hfz11_2
          try clear hfz11_3
          try clear hfz22_0
          try clear hfz22_1
          try clear hfz22_2
          try clear hfz22_3
          try clear hfz26_0
          try clear hfz26_1
          try clear hfz26_2
          try clear hfz26_3
          try clear hfz31_0
          try clear hfz31_1
          try clear hfz31_2
          try clear hfz31_3
          try clear hfz33_0
          try clear hfz33_1
          try clear hfz33_2
          try clear hfz33_3
          try clear hfz36_0
          try clear hfz36_1
          try clear hfz36_2
          try clear hfz36_3
          try clear hfz44_0
          try clear hfz44_1
          try clear hfz44_2
          try clear hfz44_3
          try clear hfz48_0
          try clear hfz48_1
          try clear hfz48_2
          try clear hfz48_3
          try clear hfz50_0
          try clear hfz50_1
          try clear hfz50_2
          try clear hfz50_3
          try clear hfz52_0
          try clear hfz52_1
          try clear hfz52_2
          try clear hfz52_3
          try clear hfz64_0
          try clear hfz64_1
          try clear hfz64_2
          try clear hfz64_3
          try clear hfz71_0
          try clear hfz71_1
          try clear hfz71_2
          try clear hfz71_3
          try clear hfz77_0
          try clear hfz77_1
          try clear hfz77_2
          try clear hfz77_3
          try clear hfz82_0
          try clear hfz82_1
          try clear hfz82_2
          try clear hfz82_3
          try clear hx616_0
          try clear hx616_1
          try clear hx616_2
          try clear hx616_3
          try clear p2
          try clear p6
          try clear p616
          try clear q6
          try clear q616
          obtain ⟨kq, x121_40, rfl, HA, HJ40, HO_11, HO_13, HO_15, HO_17, HO_619003, BK609, BK617, BK618, HB⟩ := hcut
          cases kq with
          | zero => exact absurd HA.out (by simp [saronlaw06_KernelDoubled.j1])
          | succ kj40 =>
           have H := HA.out
           clear HA
           simp only [saronlaw06_KernelDoubled.j1] at H
           by_cases c83 : x121_40 = true
           ·subst c83
            have H1 : (some false) = some r := by rw [if_pos rfl] at H; exact H
            clear H
            have H := H1
            clear H1
            exact absurd ((Option.some.inj H).trans HRT.out) (by decide)
           ·replace c83 := Bool.eq_false_iff.mpr c83
            subst c83
            have H1 : (saronlaw06_KernelDoubled.l1 kj40 t622 t626 t630 t634 0) = some r := by rw [if_neg (show ¬ (false = true) by decide)] at H; exact H
            clear H
            have H := H1
            clear H1
            have H' := zh H
            clear H
            go_wp2
            go_loopg [19] kj40 (fun kq v19 w' => ∃ (x19_3 : Int), v19 = .int .i64 x19_3 ∧ Aside0 (saronlaw06_KernelDoubled.l1 kq t622 t626 t630 t634 x19_3 = some r) ∧ Aside0 (kq ≤ kj40) ∧ Aside0 (Kd.V (Kd.int .i64) 3 w' w.heap.size (fun k_ => some k_ ≠ ((.slice Ao45 x619003_1.length co45) : Value).ownBlock ∧ k_ ≠ gb609 ∧ k_ ≠ gb617 ∧ k_ ≠ gb618) v623 t622) ∧ Aside0 (Kd.V (Kd.int .i64) 3 w' w.heap.size (fun k_ => some k_ ≠ ((.slice Ao45 x619003_1.length co45) : Value).ownBlock ∧ k_ ≠ gb609 ∧ k_ ≠ gb617 ∧ k_ ≠ gb618) v627 t626) ∧ Aside0 (Kd.V (Kd.int .i64) 3 w' w.heap.size (fun k_ => some k_ ≠ ((.slice Ao45 x619003_1.length co45) : Value).ownBlock ∧ k_ ≠ gb609 ∧ k_ ≠ gb617 ∧ k_ ≠ gb618) v631 t630) ∧ Aside0 (Kd.V (Kd.int .i64) 3 w' w.heap.size (fun k_ => some k_ ≠ ((.slice Ao45 x619003_1.length co45) : Value).ownBlock ∧ k_ ≠ gb609 ∧ k_ ≠ gb617 ∧ k_ ≠ gb618) v635 t634) ∧ Aside0 (Kd.R k66 66 w' w.heap.size (fun k_ => k_ ≠ gb617) (.slice Ao45 x619003_1.length co45) x619003_1) ∧ Aside0 (w'.heap[gb609]? = some (.cells #[.int .i64 a0_0, .int .i64 a0_1, .int .i64 a0_2, (.slice (some ad616) l0_3.length c0_3)] 24 (0, 0))) ∧ Aside0 (w'.heap[gb617]? = some (.cells #[.int .i64 ((rd_T66 l0_3 t615).f0), .int .i64 ((rd_T66 l0_3 t615).f1), .int .i64 ((rd_T66 l0_3 t615).f2), .int .i64 ((rd_T66 l0_3 t615).f3)] 66 (0, 0))) ∧ Aside0 (w'.heap[gb618]? = some (.cells #[.int .i64 a0_0, .int .i64 a0_1, .int .i64 a0_2, (.slice Ao45 x619003_1.length co45)] 24 (0, 0))) ∧ Aside0 (Below w.heap.size w w'))
            case atStart => exact ⟨(0), ze, H', ⟨Nat.le_refl _⟩, ⟨zV HO_11⟩, ⟨zV HO_13⟩, ⟨zV HO_15⟩, ⟨zV HO_17⟩, ⟨zR HO_619003⟩, ⟨zc BK609⟩, ⟨zc BK617⟩, ⟨zc BK618⟩, ⟨zb⟩⟩
            case round =>
             as_aux_lemma =>
              clear H'
              try clear c1
              try clear c2
              try clear p2
              try clear c3
              try clear c4
              try clear c5
              try clear c6
              try clear p6
              try clear q6
              try clear hx6
              try clear c7
              try clear c8
              try clear c8b0
              try clear c9
              try clear c9b0
              try clear c10
              try clear c16
              try clear c21
              try clear c24
              try clear c25
              try clear c27
              try clear c27b0
              try clear c28
              try clear c29
              try clear c30
              try clear c32
              try clear c40
              try clear c42
              try clear c43
              try clear c54
              try clear c54b0
              try clear c54b1
              try clear c55
              try clear c55b0
              try clear c55b1
              try clear c56
              try clear c56b0
              try clear c56b1
              try clear c57
              try clear c57b0
              try clear c57b1
              try clear c58
              try clear c58b0
              try clear c58b1
              try clear c59
              try clear c59b0
              try clear c59b1
              try clear c60
              try clear c60b0
              try clear c60b1
              try clear p61
              try clear q61
              try clear hx61
              try clear c62
              try clear c63
              try clear p64
              try clear c69
              try clear c70
              try clear c75
              try clear c76
              try clear c80
              try clear c81
              try clear c83
              try clear hcz11_0
              try clear hcz11_1
              try clear hcz11_2
              try clear hcz11_3
              try clear hcz22_0
              try clear hcz22_1
              try clear hcz22_2
              try clear hcz22_3
              try clear hcz26_0
              try clear hcz26_1
              try clear hcz26_2
              try clear hcz26_3
              try clear hcz31_0
              try clear hcz31_1
              try clear hcz31_2
              try clear hcz31_3
              try clear hcz33_0
              try clear hcz33_1
              try clear hcz33_2
              try clear hcz33_3
              try clear hcz36_0
              try clear hcz36_1
              try clear hcz36_2
              try clear hcz36_3
              try clear hcz44_0
              try clear hcz44_1
              try clear hcz44_2
              try clear hcz44_3
              try clear hcz48_0
              try clear hcz48_1
              try clear hcz48_2
              try clear hcz48_3
              try clear hcz50_0
              try clear hcz50_1
              try clear hcz50_2
              try clear hcz50_3
              try clear hcz52_0
              try clear hcz52_1
              try clear hcz52_2
              try clear hcz52_3
              try clear hcz64_0
              try clear hcz64_1
              try clear hcz64_2
              try clear hcz64_3
              try clear hcz71_0
              try clear hcz71_1
              try clear hcz71_2
              try clear hcz71_3
              try clear hcz77_0
              try clear hcz77_1
              try clear hcz77_2
              try clear hcz77_3
              try clear hcz82_0
              try clear hcz82_1
              try clear hcz82_2
              try clear hcz82_3
              try clear hfz11_0
              try clear hfz11_1
              try clear hfz11_2
              try clear hfz11_3
              try clear hfz22_0
              try clear hfz22_1
              try clear hfz22_2
              try clear hfz22_3
              try clear hfz26_0
              try clear hfz26_1
              try clear hfz26_2
              try clear hfz26_3
              try clear hfz31_0
              try clear hfz31_1
              try clear hfz31_2
              try clear hfz31_3
              try clear hfz33_0
              try clear hfz33_1
              try clear hfz33_2
              try clear hfz33_3
              try clear hfz36_0
              try clear hfz36_1
              try clear hfz36_2
              try clear hfz36_3
              try clear hfz44_0
              try clear hfz44_1
              try clear hfz44_2
              try clear hfz44_3
              try clear hfz48_0
              try clear hfz48_1
              try clear hfz48_2
              try clear hfz48_3
              try clear hfz50_0
              try clear hfz50_1
              try clear hfz50_2
              try clear hfz50_3
              try clear hfz52_0
              try clear hfz52_1
              try clear hfz52_2
              try clear hfz52_3
              try clear hfz64_0
              try clear hfz64_1
              try clear hfz64_2
              try clear hfz64_3
              try clear hfz71_0
              try clear hfz71_1
              try clear hfz71_2
              try clear hfz71_3
              try clear hfz77_0
              try clear hfz77_1
              try clear hfz77_2
              try clear hfz77_3
              try clear hfz82_0
              try clear hfz82_1
              try clear hfz82_2
              try clear hfz82_3
              try clear hx616_0
              try clear hx616_1
              try clear hx616_2
              try clear hx616_3
              try clear p2
              try clear p6
              try clear p61
              try clear p616
              try clear p64
              try clear q6
              try clear q61
              try clear q616
              obtain ⟨x19_3, rfl, HA, HK3, HO_11, HO_13, HO_15, HO_17, HO_619003, BK609, BK617, BK618, HB⟩ := hrel
              cases gk with
              | zero => exact absurd HA.out (by simp [saronlaw06_KernelDoubled.l1])
              | succ k3 =>
               have H := HA.out
               clear HA
               simp only [saronlaw06_KernelDoubled.l1] at H
               by_cases c84 : x19_3 < (t626.length : Int)
               ·rw [if_pos c84] at H
                have c84b0 : decide (x19_3 < (t626.length : Int)) = true := decide_eq_true c84
                clear c84
                by_cases c85 : (Int.tmod x19_3 2) = 1
                ·rw [if_pos c85] at H
                 have c85b0 : ((Int.tmod x19_3 2) == 1) = true := beq_iff_eq.mpr c85
                 have c85b1 : ((Int.tmod x19_3 2) != 1) = false := bne_eq_false_iff_eq.mpr c85
                 clear c85
                 obtain ⟨ji86, hji86⟩ : ∃ j_ : Int, (wrap64 (Int.tdiv x19_3 2)) = j_ := ⟨_, rfl⟩
                 replace H : (if 0 ≤ (ji86) then (if (ji86) < (t622.length : Int) then (if 0 ≤ x19_3 then (if (rd t622 (ji86)) = (rd t626 x19_3) then (if 0 ≤ (wrap64 (2 * x19_3)) then (if (wrap64 (2 * x19_3)) < (t630.length : Int) then (if (rd t630 (wrap64 (2 * x19_3))) = (rd t626 x19_3) then (if 0 ≤ (wrap64 ((wrap64 (2 * x19_3)) + 1)) then (if (wrap64 ((wrap64 (2 * x19_3)) + 1)) < (t630.length : Int) then (if (rd t630 (wrap64 ((wrap64 (2 * x19_3)) + 1))) = (rd t626 x19_3) then (if 0 ≤ (wrap64 ((wrap64 (2 * (wrap64 (x19_3 - (Int.tmod x19_3 2))))) + (Int.tmod x19_3 2))) then (if (wrap64 ((wrap64 (2 * (wrap64 (x19_3 - (Int.tmod x19_3 2))))) + (Int.tmod x19_3 2))) < (t634.length : Int) then (if (rd t634 (wrap64 ((wrap64 (2 * (wrap64 (x19_3 - (Int.tmod x19_3 2))))) + (Int.tmod x19_3 2)))) = (rd t626 x19_3) then (if 0 ≤ (wrap64 ((wrap64 ((wrap64 (2 * (wrap64 (x19_3 - (Int.tmod x19_3 2))))) + (Int.tmod x19_3 2))) + 2)) then (if (wrap64 ((wrap64 ((wrap64 (2 * (wrap64 (x19_3 - (Int.tmod x19_3 2))))) + (Int.tmod x19_3 2))) + 2)) < (t634.length : Int) then (if (rd t634 (wrap64 ((wrap64 ((wrap64 (2 * (wrap64 (x19_3 - (Int.tmod x19_3 2))))) + (Int.tmod x19_3 2))) + 2))) = (rd t626 x19_3) then (saronlaw06_KernelDoubled.l1 k3 t622 t626 t630 t634 (wrap64 (x19_3 + 1))) else (some false)) else (none)) else (none)) else (some false)) else (none)) else (none)) else (some false)) else (none)) else (none)) else (some false)) else (none)) else (none)) else (some false)) else (none)) else (none)) else (none)) = some r := by first | (rw [hji86] at H; exact H) | (simp only [hji86] at H ⊢; exact H)
                 have hji86w : (IntKind.i64.wrap (Int.tdiv x19_3 2)) = ji86 := (i64_w _).trans hji86
                 by_cases c87 : 0 ≤ (ji86)
                 ·rw [if_pos c87] at H
                  have c87b0 : decide (0 ≤ (ji86)) = true := decide_eq_true c87
                  clear c87
                  by_cases c88 : (ji86) < (t622.length : Int)
                  ·rw [if_pos c88] at H
                   have c88b0 : decide ((ji86) < (t622.length : Int)) = true := decide_eq_true c88
                   clear c88
                   by_cases c89 : 0 ≤ x19_3
                   ·rw [if_pos c89] at H
                    have c89b0 : decide (0 ≤ x19_3) = true := decide_eq_true c89
                    clear c89
                    by_cases c90 : (rd t622 (ji86)) = (rd t626 x19_3)
                    ·rw [if_pos c90] at H
                     have c90b0 : ((rd t622 (ji86)) == (rd t626 x19_3)) = true := beq_iff_eq.mpr c90
                     have c90b1 : ((rd t622 (ji86)) != (rd t626 x19_3)) = false := bne_eq_false_iff_eq.mpr c90
                     clear c90
                     obtain ⟨ji91, hji91⟩ : ∃ j_ : Int, (wrap64 (2 * x19_3)) = j_ := ⟨_, rfl⟩
                     replace H : (if 0 ≤ (ji91) then (if (ji91) < (t630.length : Int) then (if (rd t630 (ji91)) = (rd t626 x19_3) then (if 0 ≤ (wrap64 ((ji91) + 1)) then (if (wrap64 ((ji91) + 1)) < (t630.length : Int) then (if (rd t630 (wrap64 ((ji91) + 1))) = (rd t626 x19_3) then (if 0 ≤ (wrap64 ((wrap64 (2 * (wrap64 (x19_3 - (Int.tmod x19_3 2))))) + (Int.tmod x19_3 2))) then (if (wrap64 ((wrap64 (2 * (wrap64 (x19_3 - (Int.tmod x19_3 2))))) + (Int.tmod x19_3 2))) < (t634.length : Int) then (if (rd t634 (wrap64 ((wrap64 (2 * (wrap64 (x19_3 - (Int.tmod x19_3 2))))) + (Int.tmod x19_3 2)))) = (rd t626 x19_3) then (if 0 ≤ (wrap64 ((wrap64 ((wrap64 (2 * (wrap64 (x19_3 - (Int.tmod x19_3 2))))) + (Int.tmod x19_3 2))) + 2)) then (if (wrap64 ((wrap64 ((wrap64 (2 * (wrap64 (x19_3 - (Int.tmod x19_3 2))))) + (Int.tmod x19_3 2))) + 2)) < (t634.length : Int) then (if (rd t634 (wrap64 ((wrap64 ((wrap64 (2 * (wrap64 (x19_3 - (Int.tmod x19_3 2))))) + (Int.tmod x19_3 2))) + 2))) = (rd t626 x19_3) then (saronlaw06_KernelDoubled.l1 k3 t622 t626 t630 t634 (wrap64 (x19_3 + 1))) else (some false)) else (none)) else (none)) else (some false)) else (none)) else (none)) else (some false)) else (none)) else (none)) else (some false)) else (none)) else (none)) = some r := by first | (rw [hji91] at H; exact H) | (simp only [hji91] at H ⊢; exact H)
                     have hji91w : (IntKind.i64.wrap (2 * x19_3)) = ji91 := (i64_w _).trans hji91
                     by_cases c92 : 0 ≤ (ji91)
                     ·rw [if_pos c92] at H
                      have c92b0 : decide (0 ≤ (ji91)) = true := decide_eq_true c92
                      clear c92
                      by_cases c93 : (ji91) < (t630.length : Int)
                      ·rw [if_pos c93] at H
                       have c93b0 : decide ((ji91) < (t630.length : Int)) = true := decide_eq_true c93
                       clear c93
                       by_cases c94 : (rd t630 (ji91)) = (rd t626 x19_3)
                       ·rw [if_pos c94] at H
                        have c94b0 : ((rd t630 (ji91)) == (rd t626 x19_3)) = true := beq_iff_eq.mpr c94
                        have c94b1 : ((rd t630 (ji91)) != (rd t626 x19_3)) = false := bne_eq_false_iff_eq.mpr c94
                        clear c94
                        obtain ⟨ji95, hji95⟩ : ∃ j_ : Int, (wrap64 ((ji91) + 1)) = j_ := ⟨_, rfl⟩
                        replace H : (if 0 ≤ (ji95) then (if (ji95) < (t630.length : Int) then (if (rd t630 (ji95)) = (rd t626 x19_3) then (if 0 ≤ (wrap64 ((wrap64 (2 * (wrap64 (x19_3 - (Int.tmod x19_3 2))))) + (Int.tmod x19_3 2))) then (if (wrap64 ((wrap64 (2 * (wrap64 (x19_3 - (Int.tmod x19_3 2))))) + (Int.tmod x19_3 2))) < (t634.length : Int) then (if (rd t634 (wrap64 ((wrap64 (2 * (wrap64 (x19_3 - (Int.tmod x19_3 2))))) + (Int.tmod x19_3 2)))) = (rd t626 x19_3) then (if 0 ≤ (wrap64 ((wrap64 ((wrap64 (2 * (wrap64 (x19_3 - (Int.tmod x19_3 2))))) + (Int.tmod x19_3 2))) + 2)) then (if (wrap64 ((wrap64 ((wrap64 (2 * (wrap64 (x19_3 - (Int.tmod x19_3 2))))) + (Int.tmod x19_3 2))) + 2)) < (t634.length : Int) then (if (rd t634 (wrap64 ((wrap64 ((wrap64 (2 * (wrap64 (x19_3 - (Int.tmod x19_3 2))))) + (Int.tmod x19_3 2))) + 2))) = (rd t626 x19_3) then (saronlaw06_KernelDoubled.l1 k3 t622 t626 t630 t634 (wrap64 (x19_3 + 1))) else (some false)) else (none)) else (none)) else (some false)) else (none)) else (none)) else (some false)) else (none)) else (none)) = some r := by first | (rw [hji95] at H; exact H) | (simp only [hji95] at H ⊢; exact H)
                        have hji95w : (IntKind.i64.wrap ((ji91) + 1)) = ji95 := (i64_w _).trans hji95
                        by_cases c96 : 0 ≤ (ji95)
                        ·rw [if_pos c96] at H
                         have c96b0 : decide (0 ≤ (ji95)) = true := decide_eq_true c96
                         clear c96
                         by_cases c97 : (ji95) < (t630.length : Int)
                         ·rw [if_pos c97] at H
                          have c97b0 : decide ((ji95) < (t630.length : Int)) = true := decide_eq_true c97
                          clear c97
                          by_cases c98 : (rd t630 (ji95)) = (rd t626 x19_3)
                          ·rw [if_pos c98] at H
                           have c98b0 : ((rd t630 (ji95)) == (rd t626 x19_3)) = true := beq_iff_eq.mpr c98
                           have c98b1 : ((rd t630 (ji95)) != (rd t626 x19_3)) = false := bne_eq_false_iff_eq.mpr c98
                           clear c98
                           obtain ⟨ji99, hji99⟩ : ∃ j_ : Int, (wrap64 ((wrap64 (2 * (wrap64 (x19_3 - (Int.tmod x19_3 2))))) + (Int.tmod x19_3 2))) = j_ := ⟨_, rfl⟩
                           replace H : (if 0 ≤ (ji99) then (if (ji99) < (t634.length : Int) then (if (rd t634 (ji99)) = (rd t626 x19_3) then (if 0 ≤ (wrap64 ((ji99) + 2)) then (if (wrap64 ((ji99) + 2)) < (t634.length : Int) then (if (rd t634 (wrap64 ((ji99) + 2))) = (rd t626 x19_3) then (saronlaw06_KernelDoubled.l1 k3 t622 t626 t630 t634 (wrap64 (x19_3 + 1))) else (some false)) else (none)) else (none)) else (some false)) else (none)) else (none)) = some r := by first | (rw [hji99] at H; exact H) | (simp only [hji99] at H ⊢; exact H)
                           have hji99w : (IntKind.i64.wrap ((wrap64 (2 * (wrap64 (x19_3 - (Int.tmod x19_3 2))))) + (Int.tmod x19_3 2))) = ji99 := (i64_w _).trans hji99
                           by_cases c100 : 0 ≤ (ji99)
                           ·rw [if_pos c100] at H
                            have c100b0 : decide (0 ≤ (ji99)) = true := decide_eq_true c100
                            clear c100
                            by_cases c101 : (ji99) < (t634.length : Int)
                            ·rw [if_pos c101] at H
                             have c101b0 : decide ((ji99) < (t634.length : Int)) = true := decide_eq_true c101
                             clear c101
                             by_cases c102 : (rd t634 (ji99)) = (rd t626 x19_3)
                             ·rw [if_pos c102] at H
                              have c102b0 : ((rd t634 (ji99)) == (rd t626 x19_3)) = true := beq_iff_eq.mpr c102
                              have c102b1 : ((rd t634 (ji99)) != (rd t626 x19_3)) = false := bne_eq_false_iff_eq.mpr c102
                              clear c102
                              obtain ⟨ji103, hji103⟩ : ∃ j_ : Int, (wrap64 ((ji99) + 2)) = j_ := ⟨_, rfl⟩
                              replace H : (if 0 ≤ (ji103) then (if (ji103) < (t634.length : Int) then (if (rd t634 (ji103)) = (rd t626 x19_3) then (saronlaw06_KernelDoubled.l1 k3 t622 t626 t630 t634 (wrap64 (x19_3 + 1))) else (some false)) else (none)) else (none)) = some r := by first | (rw [hji103] at H; exact H) | (simp only [hji103] at H ⊢; exact H)
                              have hji103w : (IntKind.i64.wrap ((ji99) + 2)) = ji103 := (i64_w _).trans hji103
                              by_cases c104 : 0 ≤ (ji103)
                              ·rw [if_pos c104] at H
                               have c104b0 : decide (0 ≤ (ji103)) = true := decide_eq_true c104
                               clear c104
                               by_cases c105 : (ji103) < (t634.length : Int)
                               ·rw [if_pos c105] at H
                                have c105b0 : decide ((ji103) < (t634.length : Int)) = true := decide_eq_true c105
                                clear c105
                                by_cases c106 : (rd t634 (ji103)) = (rd t626 x19_3)
                                ·rw [if_pos c106] at H
                                 have c106b0 : ((rd t634 (ji103)) == (rd t626 x19_3)) = true := beq_iff_eq.mpr c106
                                 have c106b1 : ((rd t634 (ji103)) != (rd t626 x19_3)) = false := bne_eq_false_iff_eq.mpr c106
                                 clear c106
                                 have H' := zh H
                                 clear H
                                 obtain ⟨Ao107, co107, eo107⟩ := Kd.V_slice HO_13.out
                                 subst eo107
                                 try go_wp2
                                 replace HO_11 := zh (Kd.V_drew HO_11.out)
                                 replace HO_13 := zh (Kd.V_drew HO_13.out)
                                 replace HO_15 := zh (Kd.V_drew HO_15.out)
                                 replace HO_17 := zh (Kd.V_drew HO_17.out)
                                 replace HO_619003 := zh (Kd.R_drew HO_619003.out)
                                 replace BK609 := zh (blk_drew BK609.out)
                                 replace BK617 := zh (blk_drew BK617.out)
                                 replace BK618 := zh (blk_drew BK618.out)
                                 replace HB := zh (below_drew1 HB.out)
                                 obtain ⟨Ao109, co109, eo109⟩ := Kd.V_slice HO_11.out
                                 (first | subst eo109 | (injection eo109 with f1_ f2_ f3_; have f4_ := f1_.symm; have f5_ := f3_.symm; clear f1_ f2_ f3_; subst f4_; subst f5_))
                                 have p638 : 0 ≤ ((ji86) : Int) := of_decide_eq_true zs
                                 have q638 : (ji86) < (t622.length : Int) := of_decide_eq_true zs
                                 obtain ⟨ad638, e638, hx638_0⟩ := Kd.at_int (Kd.V_reads' HO_11.out).2.2 (ji86) p638 q638
                                 cases e638
                                 replace p638 := eq_true p638
                                 replace q638 := eq_true q638
                                 have p639 : 0 ≤ (x19_3 : Int) := of_decide_eq_true zs
                                 have q639 : x19_3 < (t626.length : Int) := of_decide_eq_true zs
                                 obtain ⟨ad639, e639, hx639_0⟩ := Kd.at_int (Kd.V_reads' HO_13.out).2.2 x19_3 p639 q639
                                 cases e639
                                 replace p639 := eq_true p639
                                 replace q639 := eq_true q639
                                 obtain ⟨Ao110, co110, eo110⟩ := Kd.V_slice HO_15.out
                                 (first | subst eo110 | (injection eo110 with f1_ f2_ f3_; have f4_ := f1_.symm; have f5_ := f3_.symm; clear f1_ f2_ f3_; subst f4_; subst f5_))
                                 have p640 : 0 ≤ ((ji91) : Int) := of_decide_eq_true zs
                                 have q640 : (ji91) < (t630.length : Int) := of_decide_eq_true zs
                                 obtain ⟨ad640, e640, hx640_0⟩ := Kd.at_int (Kd.V_reads' HO_15.out).2.2 (ji91) p640 q640
                                 cases e640
                                 replace p640 := eq_true p640
                                 replace q640 := eq_true q640
                                 have p641 : 0 ≤ (x19_3 : Int) := of_decide_eq_true zs
                                 have q641 : x19_3 < (t626.length : Int) := of_decide_eq_true zs
                                 obtain ⟨ad641, e641, hx641_0⟩ := Kd.at_int (Kd.V_reads' HO_13.out).2.2 x19_3 p641 q641
                                 obtain rfl : ad639 = ad641 := (by injection e641)
                                 replace p641 := eq_true p641
                                 replace q641 := eq_true q641
                                 have p642 : 0 ≤ ((ji95) : Int) := of_decide_eq_true zs
                                 have q642 : (ji95) < (t630.length : Int) := of_decide_eq_true zs
                                 obtain ⟨ad642, e642, hx642_0⟩ := Kd.at_int (Kd.V_reads' HO_15.out).2.2 (ji95) p642 q642
                                 obtain rfl : ad640 = ad642 := (by injection e642)
                                 replace p642 := eq_true p642
                                 replace q642 := eq_true q642
                                 have p643 : 0 ≤ (x19_3 : Int) := of_decide_eq_true zs
                                 have q643 : x19_3 < (t626.length : Int) := of_decide_eq_true zs
                                 obtain ⟨ad643, e643, hx643_0⟩ := Kd.at_int (Kd.V_reads' HO_13.out).2.2 x19_3 p643 q643
                                 obtain rfl : ad639 = ad643 := (by injection e643)
                                 replace p643 := eq_true p643
                                 replace q643 := eq_true q643
                                 obtain ⟨Ao111, co111, eo111⟩ := Kd.V_slice HO_17.out
                                 (first | subst eo111 | (injection eo111 with f1_ f2_ f3_; have f4_ := f1_.symm; have f5_ := f3_.symm; clear f1_ f2_ f3_; subst f4_; subst f5_))
                                 have p644 : 0 ≤ ((ji99) : Int) := of_decide_eq_true zs
                                 have q644 : (ji99) < (t634.length : Int) := of_decide_eq_true zs
                                 obtain ⟨ad644, e644, hx644_0⟩ := Kd.at_int (Kd.V_reads' HO_17.out).2.2 (ji99) p644 q644
                                 cases e644
                                 replace p644 := eq_true p644
                                 replace q644 := eq_true q644
                                 have p645 : 0 ≤ (x19_3 : Int) := of_decide_eq_true zs
                                 have q645 : x19_3 < (t626.length : Int) := of_decide_eq_true zs
                                 obtain ⟨ad645, e645, hx645_0⟩ := Kd.at_int (Kd.V_reads' HO_13.out).2.2 x19_3 p645 q645
                                 obtain rfl : ad639 = ad645 := (by injection e645)
                                 replace p645 := eq_true p645
                                 replace q645 := eq_true q645
                                 have p646 : 0 ≤ ((ji103) : Int) := of_decide_eq_true zs
                                 have q646 : (ji103) < (t634.length : Int) := of_decide_eq_true zs
                                 obtain ⟨ad646, e646, hx646_0⟩ := Kd.at_int (Kd.V_reads' HO_17.out).2.2 (ji103) p646 q646
                                 obtain rfl : ad644 = ad646 := (by injection e646)
                                 replace p646 := eq_true p646
                                 replace q646 := eq_true q646
                                 have p647 : 0 ≤ (x19_3 : Int) := of_decide_eq_true zs
                                 have q647 : x19_3 < (t626.length : Int) := of_decide_eq_true zs
                                 obtain ⟨ad647, e647, hx647_0⟩ := Kd.at_int (Kd.V_reads' HO_13.out).2.2 x19_3 p647 q647
                                 obtain rfl : ad639 = ad647 := (by injection e647)
                                 replace p647 := eq_true p647
                                 replace q647 := eq_true q647
                                 refine start_ (n := 77) (S := fun w' => w'.cell? (ad638.add ((ji86)).toNat) = some (.int .i64 (rd t622 (ji86))) ∧ w'.cell? (ad639.add (x19_3).toNat) = some (.int .i64 (rd t626 x19_3)) ∧ w'.cell? (ad640.add ((ji91)).toNat) = some (.int .i64 (rd t630 (ji91))) ∧ w'.cell? (ad639.add (x19_3).toNat) = some (.int .i64 (rd t626 x19_3)) ∧ w'.cell? (ad640.add ((ji95)).toNat) = some (.int .i64 (rd t630 (ji95))) ∧ w'.cell? (ad639.add (x19_3).toNat) = some (.int .i64 (rd t626 x19_3)) ∧ w'.cell? (ad644.add ((ji99)).toNat) = some (.int .i64 (rd t634 (ji99))) ∧ w'.cell? (ad639.add (x19_3).toNat) = some (.int .i64 (rd t626 x19_3)) ∧ w'.cell? (ad644.add ((ji103)).toNat) = some (.int .i64 (rd t634 (ji103))) ∧ w'.cell? (ad639.add (x19_3).toNat) = some (.int .i64 (rd t626 x19_3))) (ds := []) (Array.replicate 77 false) zk rfl rfl ⟨hx638_0, hx639_0, hx640_0, hx641_0, hx642_0, hx643_0, hx644_0, hx645_0, hx646_0, hx647_0⟩ (fun hHeld => ?_); refine with_tabW saronlaw06_KernelDoubled.tab19 saronlaw06_KernelDoubled.bits19 (fun HT_ HW_ => ?_)
                                 generalize wr.drew = w108 at HO_11 HO_13 HO_15 HO_17 HO_619003 BK609 BK617 BK618 HB hx638_0 hx639_0 hx640_0 hx641_0 hx642_0 hx643_0 hx644_0 hx645_0 hx646_0 hx647_0 hHeld ⊢
                                 refine zu 0 ?_
                                 refine zu 1 ?_
                                 refine zu 2 ?_
                                 refine zu 3 ?_
                                 refine zu 4 ?_
                                 refine zu 5 ?_
                                 refine zu 6 ?_
                                 refine zu 7 ?_
                                 refine zu 9 ?_
                                 refine zu 10 ?_
                                 refine zu 11 ?_
                                 refine zt 8 ?_
                                 refine zt 12 ?_
                                 refine zu 13 ?_
                                 refine zu 14 ?_
                                 refine zu 15 ?_
                                 refine zu 16 ?_
                                 refine zu 17 ?_
                                 refine zu 18 ?_
                                 refine zu 19 ?_
                                 refine zu 21 ?_
                                 refine zu 22 ?_
                                 refine zu 23 ?_
                                 refine zt 20 ?_
                                 refine zt 24 ?_
                                 refine zu 25 ?_
                                 refine zu 26 ?_
                                 refine zu 27 ?_
                                 refine zu 28 ?_
                                 refine zu 29 ?_
                                 refine zu 30 ?_
                                 refine zu 31 ?_
                                 refine zu 32 ?_
                                 refine zu 34 ?_
                                 refine zu 35 ?_
                                 refine zu 36 ?_
                                 refine zt 33 ?_
                                 refine zt 37 ?_
                                 refine zu 38 ?_
                                 refine zu 39 ?_
                                 refine zu 40 ?_
                                 refine zu 41 ?_
                                 refine zu 42 ?_
                                 refine zu 43 ?_
                                 refine zu 44 ?_
                                 refine zu 45 ?_
                                 refine zu 46 ?_
                                 refine zu 47 ?_
                                 refine zu 48 ?_
                                 refine zu 49 ?_
                                 refine zu 50 ?_
                                 refine zu 52 ?_
                                 refine zu 53 ?_
                                 refine zu 54 ?_
                                 refine zt 51 ?_
                                 refine zt 55 ?_
                                 refine zu 56 ?_
                                 refine zu 57 ?_
                                 refine zu 58 ?_
                                 refine zu 59 ?_
                                 refine zu 60 ?_
                                 refine zu 61 ?_
                                 refine zu 62 ?_
                                 refine zu 63 ?_
                                 refine zu 64 ?_
                                 refine zu 65 ?_
                                 refine zu 66 ?_
                                 refine zu 67 ?_
                                 refine zu 68 ?_
                                 refine zu 69 ?_
                                 refine zu 71 ?_
                                 refine zu 72 ?_
                                 refine zu 73 ?_
                                 refine zt 70 ?_
                                 refine zt 74 ?_
                                 refine zu 75 ?_
                                 refine zu 76 ?_
                                 refine zd ?_
                                 try go_wp2
                                 go_roundg k3
                                 case measure => have := HK1.out; have := HJ40.out; have := HK3.out; omega
                                 case rel => exact ⟨(wrap64 (x19_3 + 1)), ze, H', ⟨by have := HK1.out; have := HJ40.out; have := HK3.out; omega⟩, ⟨zV HO_11⟩, ⟨zV HO_13⟩, ⟨zV HO_15⟩, ⟨zV HO_17⟩, ⟨zR HO_619003⟩, ⟨zc BK609⟩, ⟨zc BK617⟩, ⟨zc BK618⟩, ⟨zb⟩⟩
                                ·rw [if_neg c106] at H
                                 have c106b0 : ((rd t634 (ji103)) == (rd t626 x19_3)) = false := beq_eq_false_iff_ne.mpr c106
                                 have c106b1 : ((rd t634 (ji103)) != (rd t626 x19_3)) = true := bne_iff_ne.mpr c106
                                 exact absurd ((Option.some.inj H).trans HRT.out) (by decide)
                               ·rw [if_neg c105] at H
                                exact absurd H (by simp)
                              ·rw [if_neg c104] at H
                               exact absurd H (by simp)
                             ·rw [if_neg c102] at H
                              have c102b0 : ((rd t634 (ji99)) == (rd t626 x19_3)) = false := beq_eq_false_iff_ne.mpr c102
                              have c102b1 : ((rd t634 (ji99)) != (rd t626 x19_3)) = true := bne_iff_ne.mpr c102
                              exact absurd ((Option.some.inj H).trans HRT.out) (by decide)
                            ·rw [if_neg c101] at H
                             exact absurd H (by simp)
                           ·rw [if_neg c100] at H
                            exact absurd H (by simp)
                          ·rw [if_neg c98] at H
                           have c98b0 : ((rd t630 (ji95)) == (rd t626 x19_3)) = false := beq_eq_false_iff_ne.mpr c98
                           have c98b1 : ((rd t630 (ji95)) != (rd t626 x19_3)) = true := bne_iff_ne.mpr c98
                           exact absurd ((Option.some.inj H).trans HRT.out) (by decide)
                         ·rw [if_neg c97] at H
                          exact absurd H (by simp)
                        ·rw [if_neg c96] at H
                         exact absurd H (by simp)
                       ·rw [if_neg c94] at H
                        have c94b0 : ((rd t630 (ji91)) == (rd t626 x19_3)) = false := beq_eq_false_iff_ne.mpr c94
                        have c94b1 : ((rd t630 (ji91)) != (rd t626 x19_3)) = true := bne_iff_ne.mpr c94
                        exact absurd ((Option.some.inj H).trans HRT.out) (by decide)
                      ·rw [if_neg c93] at H
                       exact absurd H (by simp)
                     ·rw [if_neg c92] at H
                      exact absurd H (by simp)
                    ·rw [if_neg c90] at H
                     have c90b0 : ((rd t622 (ji86)) == (rd t626 x19_3)) = false := beq_eq_false_iff_ne.mpr c90
                     have c90b1 : ((rd t622 (ji86)) != (rd t626 x19_3)) = true := bne_iff_ne.mpr c90
                     exact absurd ((Option.some.inj H).trans HRT.out) (by decide)
                   ·rw [if_neg c89] at H
                    exact absurd H (by simp)
                  ·rw [if_neg c88] at H
                   exact absurd H (by simp)
                 ·rw [if_neg c87] at H
                  exact absurd H (by simp)
                ·rw [if_neg c85] at H
                 have c85b0 : ((Int.tmod x19_3 2) == 1) = false := beq_eq_false_iff_ne.mpr c85
                 have c85b1 : ((Int.tmod x19_3 2) != 1) = true := bne_iff_ne.mpr c85
                 obtain ⟨ji133, hji133⟩ : ∃ j_ : Int, (wrap64 (2 * x19_3)) = j_ := ⟨_, rfl⟩
                 replace H : (if 0 ≤ (ji133) then (if (ji133) < (t630.length : Int) then (if 0 ≤ x19_3 then (if (rd t630 (ji133)) = (rd t626 x19_3) then (if 0 ≤ (wrap64 ((ji133) + 1)) then (if (wrap64 ((ji133) + 1)) < (t630.length : Int) then (if (rd t630 (wrap64 ((ji133) + 1))) = (rd t626 x19_3) then (if 0 ≤ (wrap64 ((wrap64 (2 * (wrap64 (x19_3 - (Int.tmod x19_3 2))))) + (Int.tmod x19_3 2))) then (if (wrap64 ((wrap64 (2 * (wrap64 (x19_3 - (Int.tmod x19_3 2))))) + (Int.tmod x19_3 2))) < (t634.length : Int) then (if (rd t634 (wrap64 ((wrap64 (2 * (wrap64 (x19_3 - (Int.tmod x19_3 2))))) + (Int.tmod x19_3 2)))) = (rd t626 x19_3) then (if 0 ≤ (wrap64 ((wrap64 ((wrap64 (2 * (wrap64 (x19_3 - (Int.tmod x19_3 2))))) + (Int.tmod x19_3 2))) + 2)) then (if (wrap64 ((wrap64 ((wrap64 (2 * (wrap64 (x19_3 - (Int.tmod x19_3 2))))) + (Int.tmod x19_3 2))) + 2)) < (t634.length : Int) then (if (rd t634 (wrap64 ((wrap64 ((wrap64 (2 * (wrap64 (x19_3 - (Int.tmod x19_3 2))))) + (Int.tmod x19_3 2))) + 2))) = (rd t626 x19_3) then (saronlaw06_KernelDoubled.l1 k3 t622 t626 t630 t634 (wrap64 (x19_3 + 1))) else (some false)) else (none)) else (none)) else (some false)) else (none)) else (none)) else (some false)) else (none)) else (none)) else (some false)) else (none)) else (none)) else (none)) = some r := by first | (rw [hji133] at H; exact H) | (simp only [hji133] at H ⊢; exact H)
                 have hji133w : (IntKind.i64.wrap (2 * x19_3)) = ji133 := (i64_w _).trans hji133
                 by_cases c134 : 0 ≤ (ji133)
                 ·rw [if_pos c134] at H
                  have c134b0 : decide (0 ≤ (ji133)) = true := decide_eq_true c134
                  clear c134
                  by_cases c135 : (ji133) < (t630.length : Int)
                  ·rw [if_pos c135] at H
                   have c135b0 : decide ((ji133) < (t630.length : Int)) = true := decide_eq_true c135
                   clear c135
                   by_cases c136 : 0 ≤ x19_3
                   ·rw [if_pos c136] at H
                    have c136b0 : decide (0 ≤ x19_3) = true := decide_eq_true c136
                    clear c136
                    by_cases c137 : (rd t630 (ji133)) = (rd t626 x19_3)
                    ·rw [if_pos c137] at H
                     have c137b0 : ((rd t630 (ji133)) == (rd t626 x19_3)) = true := beq_iff_eq.mpr c137
                     have c137b1 : ((rd t630 (ji133)) != (rd t626 x19_3)) = false := bne_eq_false_iff_eq.mpr c137
                     clear c137
                     obtain ⟨ji138, hji138⟩ : ∃ j_ : Int, (wrap64 ((ji133) + 1)) = j_ := ⟨_, rfl⟩
                     replace H : (if 0 ≤ (ji138) then (if (ji138) < (t630.length : Int) then (if (rd t630 (ji138)) = (rd t626 x19_3) then (if 0 ≤ (wrap64 ((wrap64 (2 * (wrap64 (x19_3 - (Int.tmod x19_3 2))))) + (Int.tmod x19_3 2))) then (if (wrap64 ((wrap64 (2 * (wrap64 (x19_3 - (Int.tmod x19_3 2))))) + (Int.tmod x19_3 2))) < (t634.length : Int) then (if (rd t634 (wrap64 ((wrap64 (2 * (wrap64 (x19_3 - (Int.tmod x19_3 2))))) + (Int.tmod x19_3 2)))) = (rd t626 x19_3) then (if 0 ≤ (wrap64 ((wrap64 ((wrap64 (2 * (wrap64 (x19_3 - (Int.tmod x19_3 2))))) + (Int.tmod x19_3 2))) + 2)) then (if (wrap64 ((wrap64 ((wrap64 (2 * (wrap64 (x19_3 - (Int.tmod x19_3 2))))) + (Int.tmod x19_3 2))) + 2)) < (t634.length : Int) then (if (rd t634 (wrap64 ((wrap64 ((wrap64 (2 * (wrap64 (x19_3 - (Int.tmod x19_3 2))))) + (Int.tmod x19_3 2))) + 2))) = (rd t626 x19_3) then (saronlaw06_KernelDoubled.l1 k3 t622 t626 t630 t634 (wrap64 (x19_3 + 1))) else (some false)) else (none)) else (none)) else (some false)) else (none)) else (none)) else (some false)) else (none)) else (none)) = some r := by first | (rw [hji138] at H; exact H) | (simp only [hji138] at H ⊢; exact H)
                     have hji138w : (IntKind.i64.wrap ((ji133) + 1)) = ji138 := (i64_w _).trans hji138
                     by_cases c139 : 0 ≤ (ji138)
                     ·rw [if_pos c139] at H
                      have c139b0 : decide (0 ≤ (ji138)) = true := decide_eq_true c139
                      clear c139
                      by_cases c140 : (ji138) < (t630.length : Int)
                      ·rw [if_pos c140] at H
                       have c140b0 : decide ((ji138) < (t630.length : Int)) = true := decide_eq_true c140
                       clear c140
                       by_cases c141 : (rd t630 (ji138)) = (rd t626 x19_3)
                       ·rw [if_pos c141] at H
                        have c141b0 : ((rd t630 (ji138)) == (rd t626 x19_3)) = true := beq_iff_eq.mpr c141
                        have c141b1 : ((rd t630 (ji138)) != (rd t626 x19_3)) = false := bne_eq_false_iff_eq.mpr c141
                        clear c141
                        obtain ⟨ji142, hji142⟩ : ∃ j_ : Int, (wrap64 ((wrap64 (2 * (wrap64 (x19_3 - (Int.tmod x19_3 2))))) + (Int.tmod x19_3 2))) = j_ := ⟨_, rfl⟩
                        replace H : (if 0 ≤ (ji142) then (if (ji142) < (t634.length : Int) then (if (rd t634 (ji142)) = (rd t626 x19_3) then (if 0 ≤ (wrap64 ((ji142) + 2)) then (if (wrap64 ((ji142) + 2)) < (t634.length : Int) then (if (rd t634 (wrap64 ((ji142) + 2))) = (rd t626 x19_3) then (saronlaw06_KernelDoubled.l1 k3 t622 t626 t630 t634 (wrap64 (x19_3 + 1))) else (some false)) else (none)) else (none)) else (some false)) else (none)) else (none)) = some r := by first | (rw [hji142] at H; exact H) | (simp only [hji142] at H ⊢; exact H)
                        have hji142w : (IntKind.i64.wrap ((wrap64 (2 * (wrap64 (x19_3 - (Int.tmod x19_3 2))))) + (Int.tmod x19_3 2))) = ji142 := (i64_w _).trans hji142
                        by_cases c143 : 0 ≤ (ji142)
                        ·rw [if_pos c143] at H
                         have c143b0 : decide (0 ≤ (ji142)) = true := decide_eq_true c143
                         clear c143
                         by_cases c144 : (ji142) < (t634.length : Int)
                         ·rw [if_pos c144] at H
                          have c144b0 : decide ((ji142) < (t634.length : Int)) = true := decide_eq_true c144
                          clear c144
                          by_cases c145 : (rd t634 (ji142)) = (rd t626 x19_3)
                          ·rw [if_pos c145] at H
                           have c145b0 : ((rd t634 (ji142)) == (rd t626 x19_3)) = true := beq_iff_eq.mpr c145
                           have c145b1 : ((rd t634 (ji142)) != (rd t626 x19_3)) = false := bne_eq_false_iff_eq.mpr c145
                           clear c145
                           obtain ⟨ji146, hji146⟩ : ∃ j_ : Int, (wrap64 ((ji142) + 2)) = j_ := ⟨_, rfl⟩
                           replace H : (if 0 ≤ (ji146) then (if (ji146) < (t634.length : Int) then (if (rd t634 (ji146)) = (rd t626 x19_3) then (saronlaw06_KernelDoubled.l1 k3 t622 t626 t630 t634 (wrap64 (x19_3 + 1))) else (some false)) else (none)) else (none)) = some r := by first | (rw [hji146] at H; exact H) | (simp only [hji146] at H ⊢; exact H)
                           have hji146w : (IntKind.i64.wrap ((ji142) + 2)) = ji146 := (i64_w _).trans hji146
                           by_cases c147 : 0 ≤ (ji146)
                           ·rw [if_pos c147] at H
                            have c147b0 : decide (0 ≤ (ji146)) = true := decide_eq_true c147
                            clear c147
                            by_cases c148 : (ji146) < (t634.length : Int)
                            ·rw [if_pos c148] at H
                             have c148b0 : decide ((ji146) < (t634.length : Int)) = true := decide_eq_true c148
                             clear c148
                             by_cases c149 : (rd t634 (ji146)) = (rd t626 x19_3)
                             ·rw [if_pos c149] at H
                              have c149b0 : ((rd t634 (ji146)) == (rd t626 x19_3)) = true := beq_iff_eq.mpr c149
                              have c149b1 : ((rd t634 (ji146)) != (rd t626 x19_3)) = false := bne_eq_false_iff_eq.mpr c149
                              clear c149
                              have H' := zh H
                              clear H
                              obtain ⟨Ao150, co150, eo150⟩ := Kd.V_slice HO_13.out
                              subst eo150
                              try go_wp2
                              replace HO_11 := zh (Kd.V_drew HO_11.out)
                              replace HO_13 := zh (Kd.V_drew HO_13.out)
                              replace HO_15 := zh (Kd.V_drew HO_15.out)
                              replace HO_17 := zh (Kd.V_drew HO_17.out)
                              replace HO_619003 := zh (Kd.R_drew HO_619003.out)
                              replace BK609 := zh (blk_drew BK609.out)
                              replace BK617 := zh (blk_drew BK617.out)
                              replace BK618 := zh (blk_drew BK618.out)
                              replace HB := zh (below_drew1 HB.out)
                              obtain ⟨Ao152, co152, eo152⟩ := Kd.V_slice HO_15.out
                              (first | subst eo152 | (injection eo152 with f1_ f2_ f3_; have f4_ := f1_.symm; have f5_ := f3_.symm; clear f1_ f2_ f3_; subst f4_; subst f5_))
                              have p648 : 0 ≤ ((ji133) : Int) := of_decide_eq_true zs
                              have q648 : (ji133) < (t630.length : Int) := of_decide_eq_true zs
                              obtain ⟨ad648, e648, hx648_0⟩ := Kd.at_int (Kd.V_reads' HO_15.out).2.2 (ji133) p648 q648
                              cases e648
                              replace p648 := eq_true p648
                              replace q648 := eq_true q648
                              have p649 : 0 ≤ (x19_3 : Int) := of_decide_eq_true zs
                              have q649 : x19_3 < (t626.length : Int) := of_decide_eq_true zs
                              obtain ⟨ad649, e649, hx649_0⟩ := Kd.at_int (Kd.V_reads' HO_13.out).2.2 x19_3 p649 q649
                              cases e649
                              replace p649 := eq_true p649
                              replace q649 := eq_true q649
                              have p650 : 0 ≤ ((ji138) : Int) := of_decide_eq_true zs
                              have q650 : (ji138) < (t630.length : Int) := of_decide_eq_true zs
                              obtain ⟨ad650, e650, hx650_0⟩ := Kd.at_int (Kd.V_reads' HO_15.out).2.2 (ji138) p650 q650
                              obtain rfl : ad648 = ad650 := (by injection e650)
                              replace p650 := eq_true p650
                              replace q650 := eq_true q650
                              have p651 : 0 ≤ (x19_3 : Int) := of_decide_eq_true zs
                              have q651 : x19_3 < (t626.length : Int) := of_decide_eq_true zs
                              obtain ⟨ad651, e651, hx651_0⟩ := Kd.at_int (Kd.V_reads' HO_13.out).2.2 x19_3 p651 q651
                              obtain rfl : ad649 = ad651 := (by injection e651)
                              replace p651 := eq_true p651
                              replace q651 := eq_true q651
                              obtain ⟨Ao153, co153, eo153⟩ := Kd.V_slice HO_17.out
                              (first | subst eo153 | (injection eo153 with f1_ f2_ f3_; have f4_ := f1_.symm; have f5_ := f3_.symm; clear f1_ f2_ f3_; subst f4_; subst f5_))
                              have p652 : 0 ≤ ((ji142) : Int) := of_decide_eq_true zs
                              have q652 : (ji142) < (t634.length : Int) := of_decide_eq_true zs
                              obtain ⟨ad652, e652, hx652_0⟩ := Kd.at_int (Kd.V_reads' HO_17.out).2.2 (ji142) p652 q652
                              cases e652
                              replace p652 := eq_true p652
                              replace q652 := eq_true q652
                              have p653 : 0 ≤ (x19_3 : Int) := of_decide_eq_true zs
                              have q653 : x19_3 < (t626.length : Int) := of_decide_eq_true zs
                              obtain ⟨ad653, e653, hx653_0⟩ := Kd.at_int (Kd.V_reads' HO_13.out).2.2 x19_3 p653 q653
                              obtain rfl : ad649 = ad653 := (by injection e653)
                              replace p653 := eq_true p653
                              replace q653 := eq_true q653
                              have p654 : 0 ≤ ((ji146) : Int) := of_decide_eq_true zs
                              have q654 : (ji146) < (t634.length : Int) := of_decide_eq_true zs
                              obtain ⟨ad654, e654, hx654_0⟩ := Kd.at_int (Kd.V_reads' HO_17.out).2.2 (ji146) p654 q654
                              obtain rfl : ad652 = ad654 := (by injection e654)
                              replace p654 := eq_true p654
                              replace q654 := eq_true q654
                              have p655 : 0 ≤ (x19_3 : Int) := of_decide_eq_true zs
                              have q655 : x19_3 < (t626.length : Int) := of_decide_eq_true zs
                              obtain ⟨ad655, e655, hx655_0⟩ := Kd.at_int (Kd.V_reads' HO_13.out).2.2 x19_3 p655 q655
                              obtain rfl : ad649 = ad655 := (by injection e655)
                              replace p655 := eq_true p655
                              replace q655 := eq_true q655
                              refine start_ (n := 77) (S := fun w' => w'.cell? (ad648.add ((ji133)).toNat) = some (.int .i64 (rd t630 (ji133))) ∧ w'.cell? (ad649.add (x19_3).toNat) = some (.int .i64 (rd t626 x19_3)) ∧ w'.cell? (ad648.add ((ji138)).toNat) = some (.int .i64 (rd t630 (ji138))) ∧ w'.cell? (ad649.add (x19_3).toNat) = some (.int .i64 (rd t626 x19_3)) ∧ w'.cell? (ad652.add ((ji142)).toNat) = some (.int .i64 (rd t634 (ji142))) ∧ w'.cell? (ad649.add (x19_3).toNat) = some (.int .i64 (rd t626 x19_3)) ∧ w'.cell? (ad652.add ((ji146)).toNat) = some (.int .i64 (rd t634 (ji146))) ∧ w'.cell? (ad649.add (x19_3).toNat) = some (.int .i64 (rd t626 x19_3))) (ds := []) (Array.replicate 77 false) zk rfl rfl ⟨hx648_0, hx649_0, hx650_0, hx651_0, hx652_0, hx653_0, hx654_0, hx655_0⟩ (fun hHeld => ?_); refine with_tabW saronlaw06_KernelDoubled.tab19 saronlaw06_KernelDoubled.bits19 (fun HT_ HW_ => ?_)
                              generalize wr.drew = w151 at HO_11 HO_13 HO_15 HO_17 HO_619003 BK609 BK617 BK618 HB hx648_0 hx649_0 hx650_0 hx651_0 hx652_0 hx653_0 hx654_0 hx655_0 hHeld ⊢
                              refine zu 0 ?_
                              refine zu 1 ?_
                              refine zu 2 ?_
                              refine zu 3 ?_
                              refine zn 4 ?_
                              refine zn 5 ?_
                              refine zn 6 ?_
                              refine zn 7 ?_
                              refine zn 8 ?_
                              refine zn 9 ?_
                              refine zn 10 ?_
                              refine zn 11 ?_
                              refine zn 12 ?_
                              refine zn 13 ?_
                              refine zu 14 ?_
                              refine zu 15 ?_
                              refine zu 16 ?_
                              refine zu 17 ?_
                              refine zu 18 ?_
                              refine zu 19 ?_
                              refine zu 21 ?_
                              refine zu 22 ?_
                              refine zu 23 ?_
                              refine zt 20 ?_
                              refine zt 24 ?_
                              refine zu 25 ?_
                              refine zu 26 ?_
                              refine zu 27 ?_
                              refine zu 28 ?_
                              refine zu 29 ?_
                              refine zu 30 ?_
                              refine zu 31 ?_
                              refine zu 32 ?_
                              refine zu 34 ?_
                              refine zu 35 ?_
                              refine zu 36 ?_
                              refine zt 33 ?_
                              refine zt 37 ?_
                              refine zu 38 ?_
                              refine zu 39 ?_
                              refine zu 40 ?_
                              refine zu 41 ?_
                              refine zu 42 ?_
                              refine zu 43 ?_
                              refine zu 44 ?_
                              refine zu 45 ?_
                              refine zu 46 ?_
                              refine zu 47 ?_
                              refine zu 48 ?_
                              refine zu 49 ?_
                              refine zu 50 ?_
                              refine zu 52 ?_
                              refine zu 53 ?_
                              refine zu 54 ?_
                              refine zt 51 ?_
                              refine zt 55 ?_
                              refine zu 56 ?_
                              refine zu 57 ?_
                              refine zu 58 ?_
                              refine zu 59 ?_
                              refine zu 60 ?_
                              refine zu 61 ?_
                              refine zu 62 ?_
                              refine zu 63 ?_
                              refine zu 64 ?_
                              refine zu 65 ?_
                              refine zu 66 ?_
                              refine zu 67 ?_
                              refine zu 68 ?_
                              refine zu 69 ?_
                              refine zu 71 ?_
                              refine zu 72 ?_
                              refine zu 73 ?_
                              refine zt 70 ?_
                              refine zt 74 ?_
                              refine zu 75 ?_
                              refine zu 76 ?_
                              refine zd ?_
                              try go_wp2
                              go_roundg k3
                              case measure => have := HK1.out; have := HJ40.out; have := HK3.out; omega
                              case rel => exact ⟨(wrap64 (x19_3 + 1)), ze, H', ⟨by have := HK1.out; have := HJ40.out; have := HK3.out; omega⟩, ⟨zV HO_11⟩, ⟨zV HO_13⟩, ⟨zV HO_15⟩, ⟨zV HO_17⟩, ⟨zR HO_619003⟩, ⟨zc BK609⟩, ⟨zc BK617⟩, ⟨zc BK618⟩, ⟨zb⟩⟩
                             ·rw [if_neg c149] at H
                              have c149b0 : ((rd t634 (ji146)) == (rd t626 x19_3)) = false := beq_eq_false_iff_ne.mpr c149
                              have c149b1 : ((rd t634 (ji146)) != (rd t626 x19_3)) = true := bne_iff_ne.mpr c149
                              exact absurd ((Option.some.inj H).trans HRT.out) (by decide)
                            ·rw [if_neg c148] at H
                             exact absurd H (by simp)
                           ·rw [if_neg c147] at H
                            exact absurd H (by simp)
                          ·rw [if_neg c145] at H
                           have c145b0 : ((rd t634 (ji142)) == (rd t626 x19_3)) = false := beq_eq_false_iff_ne.mpr c145
                           have c145b1 : ((rd t634 (ji142)) != (rd t626 x19_3)) = true := bne_iff_ne.mpr c145
                           exact absurd ((Option.some.inj H).trans HRT.out) (by decide)
                         ·rw [if_neg c144] at H
                          exact absurd H (by simp)
                        ·rw [if_neg c143] at H
                         exact absurd H (by simp)
                       ·rw [if_neg c141] at H
                        have c141b0 : ((rd t630 (ji138)) == (rd t626 x19_3)) = false := beq_eq_false_iff_ne.mpr c141
                        have c141b1 : ((rd t630 (ji138)) != (rd t626 x19_3)) = true := bne_iff_ne.mpr c141
                        exact absurd ((Option.some.inj H).trans HRT.out) (by decide)
                      ·rw [if_neg c140] at H
                       exact absurd H (by simp)
                     ·rw [if_neg c139] at H
                      exact absurd H (by simp)
                    ·rw [if_neg c137] at H
                     have c137b0 : ((rd t630 (ji133)) == (rd t626 x19_3)) = false := beq_eq_false_iff_ne.mpr c137
                     have c137b1 : ((rd t630 (ji133)) != (rd t626 x19_3)) = true := bne_iff_ne.mpr c137
                     exact absurd ((Option.some.inj H).trans HRT.out) (by decide)
                   ·rw [if_neg c136] at H
                    exact absurd H (by simp)
                  ·rw [if_neg c135] at H
                   exact absurd H (by simp)
                 ·rw [if_neg c134] at H
                  exact absurd H (by simp)
               ·rw [if_neg c84] at H
                have c84b0 : decide (x19_3 < (t626.length : Int)) = false := decide_eq_false c84
                clear c84
                replace H := Option.bind_eq_some_iff.mp H
                obtain ⟨t656, A1680, H⟩ := H
                replace H : (some t656) = some r := H
                have A168 := zh A1680
                clear A1680
                obtain rfl := Option.some.inj H
                obtain ⟨Ao169, co169, eo169⟩ := Kd.V_slice HO_13.out
                subst eo169
                go_wp2_with (first | ((with_reducible refine gate_callee (f := 21) rfl ?_); refine goesL_ (some 205) rfl rfl Tryd.func21 zk rfl #[] rfl zm ?_; (with_reducible refine (saronlaw06_works.calls  t656 _ ?side1 A168.out).mono ?_); (case side1 => exact Glob.below HG.out zb); rintro e w170 ⟨rfl, hb⟩; refine ⟨_, rfl, ?_⟩; have n0_ := zh (Kd.V_below (zV HO_11) hb); have n1_ := zh (Kd.V_below (zV HO_13) hb); have n2_ := zh (Kd.V_below (zV HO_15) hb); have n3_ := zh (Kd.V_below (zV HO_17) hb); have n4_ := zh (Kd.R_below (zR HO_619003) hb); have n5_ := zh (blk_below (g := gb609) (o := .cells #[.int .i64 a0_0, .int .i64 a0_1, .int .i64 a0_2, .slice (some ad616) l0_3.length c0_3] 24 (0, 0)) (zc BK609) hb); have n6_ := zh (blk_below (g := gb617) (o := .cells #[.int .i64 ((rd_T66 l0_3 t615).f0), .int .i64 ((rd_T66 l0_3 t615).f1), .int .i64 ((rd_T66 l0_3 t615).f2), .int .i64 ((rd_T66 l0_3 t615).f3)] 66 (0, 0)) (zc BK617) hb); have n7_ := zh (blk_below (g := gb618) (o := .cells #[.int .i64 a0_0, .int .i64 a0_1, .int .i64 a0_2, .slice Ao45 x619003_1.length co45] 24 (0, 0)) (zc BK618) hb); have n8_ := zh (below_step zb hb); clear HO_11; clear HO_13; clear HO_15; clear HO_17; clear HO_619003; clear BK609; clear BK617; clear BK618; clear HB; have HO_11 := n0_; have HO_13 := n1_; have HO_15 := n2_; have HO_17 := n3_; have HO_619003 := n4_; have BK609 := n5_; have BK617 := n6_; have BK618 := n7_; have HB := n8_; clear n0_ n1_ n2_ n3_ n4_ n5_ n6_ n7_ n8_; (try clear hb); (try clear hb2); (try clear hk); (try clear hi)))
                go_ret
                exact ⟨zf, zb⟩
   ·rw [if_neg c9] at H
    exact absurd H (by simp)
  ·rw [if_neg c8] at H
   exact absurd H (by simp)
 ·replace c5 := Bool.eq_false_iff.mpr c5
  subst c5
  have H1 : ((saronlaw06_works.f).bind fun t611 => (some t611)) = some r := by rw [if_neg (show ¬ (false = true) by decide)] at H; exact H
  clear H
  have H := H1
  clear H1
  replace H := Option.bind_eq_some_iff.mp H
  obtain ⟨t611, A1710, H⟩ := H
  replace H : (some t611) = some r := H
  have A171 := zh A1710
  clear A1710
  obtain rfl := Option.some.inj H
  go_enter Tryd.func10, Tryd.ntmps10
  go_wp2_with (first | ((with_reducible refine gate_dst (N := 3) rfl ?_); (try (refine gate_guard (by rfl) ?_; dsimp only)); refine box_event ?hg (N := 3) ?hd (cs := #[.int .i64 a0_0, .int .i64 a0_1, .int .i64 a0_2, .slice A0_3 l0_3.length c0_3]) (t := 24) ?hr ?_; (case hd => rfl); (case hg => rfl); (case hr => first | (go_simp; done) | (go_simp; rfl)); intro gb609 hg w172 hbox hb; have n0_ := zh (below_step zb hb); have n1_ := zh (hbox); have n2_ := zh ((by rw [hg]; exact (below_size zb) : w.heap.size ≤ gb609)); have n3_ := zh ((by rw [hg]; exact (below_size zb) : w.heap.size ≤ gb609)); clear HB; have HB := n0_; have BK609 := n1_; have GW609 := n2_; have GE609 := n3_; clear n0_ n1_ n2_ n3_; clear hb hbox hg; have hcz173_0 : w172.cell? ⟨gb609, 0, none⟩ = some (.int .i64 a0_0) := vb BK609 0; have hcz173_1 : w172.cell? ⟨gb609, 1, none⟩ = some (.int .i64 a0_1) := vb BK609 1; have hcz173_2 : w172.cell? ⟨gb609, 2, none⟩ = some (.int .i64 a0_2) := vb BK609 2; have hcz173_3 : w172.cell? ⟨gb609, 3, none⟩ = some (.slice A0_3 l0_3.length c0_3) := vb BK609 3; have hfz173_0 := blk_frozen BK609.out 0; have hfz173_1 := blk_frozen BK609.out 1; have hfz173_2 := blk_frozen BK609.out 2; have hfz173_3 := blk_frozen BK609.out 3) | ((with_reducible refine gate_callee (f := 39) rfl ?_); refine goesL_ (some 21) rfl rfl Tryd.func39 zk rfl #[.agg #[.int .i64 a0_0, .int .i64 a0_1, .int .i64 a0_2, .slice A0_3 l0_3.length c0_3]] rfl zm ?_; (with_reducible refine (saronlaw06_sound.calls k a0_0 a0_1 a0_2 _ _ l0_3 false _ ?side1 ?side2 A4.out).mono ?_); (case side1 => repeat (first | exact (Kd.C_below HR0_3.out HB.out) | (with_reducible refine Kd.C_alloc ?_ _) | (with_reducible refine Kd.C_drewN ?_ _) | (with_reducible refine Kd.C_drew ?_))); (case side2 => exact HC0_3.out); rintro e w174 ⟨rfl, hb⟩; refine ⟨_, rfl, ?_⟩; have n0_ := zh (blk_below (g := gb609) (o := .cells #[.int .i64 a0_0, .int .i64 a0_1, .int .i64 a0_2, .slice A0_3 l0_3.length c0_3] 24 (0, 0)) (zc BK609) hb); have n1_ := zh (below_step zb hb); clear BK609; clear HB; have BK609 := n0_; have HB := n1_; clear n0_ n1_; (try clear hb); (try clear hb2); (try clear hk); (try clear hi)) | ((with_reducible refine gate_callee (f := 21) rfl ?_); refine goesL_ (some 23) rfl rfl Tryd.func21 zk rfl #[] rfl zm ?_; (with_reducible refine (saronlaw06_works.calls  t611 _ ?side1 A171.out).mono ?_); (case side1 => exact Glob.below HG.out zb); rintro e w175 ⟨rfl, hb⟩; refine ⟨_, rfl, ?_⟩; have n0_ := zh (blk_below (g := gb609) (o := .cells #[.int .i64 a0_0, .int .i64 a0_1, .int .i64 a0_2, .slice A0_3 l0_3.length c0_3] 24 (0, 0)) (zc BK609) hb); have n1_ := zh (below_step zb hb); clear BK609; clear HB; have BK609 := n0_; have HB := n1_; clear n0_ n1_; (try clear hb); (try clear hb2); (try clear hk); (try clear hi)))
  go_ret
  exact ⟨zf, zb⟩
end Go.Proofs.YtagkfkdoibnhfaaDoor.H
end
section
namespace Go.Proofs.YtagkfkdoibnhfaaDoor.kernelDoubled
open Go.ChangeShapes Go.WideShapes Go.ChangeAt Go.RowKit Go.Proofs.YtagkfkdoibnhfaaDoorW.PrintWords Go.Proofs.YtagkfkdoibnhfaaDoor.H Go.Proofs.YtagkfkdoibnhfaaDoor.K
set_option linter.unusedVariables false
theorem own : ownKnob Tryd.prog.godebug = none := by kernel_rfl
theorem laidOut : laidOutB Tryd.prog = true := by kernel_rfl
theorem door_met (os : Os) (args : Array Value) : laidMetH Tryd.prog laid1 ((World.doorLaid Tryd.prog 600 os).forCall (fun _ _ => 0) ⟨#[], args, []⟩).memory :=
 laidMetH_of_parts3 (fuel := 8) (laidMet_of_run' 8 zk zk) zk zk
set_option maxRecDepth 100000 in
set_option maxHeartbeats 2000000 in
theorem lifted (os : Os) (started : os.Started) (H : Type) (enc : TypeId × Value → H) :
  ReturnsInHanded {} Tryd.checked os 10 .any (fun w args => (Rows.kernelDoubledSpec.pre enc Tryd.prog Tryd.f10 [] false w args ∧ laidMetH Tryd.prog laid1 w) ∧ sizedMet enc Tryd.prog Tryd.f10 (OpenSpec.ofChange Rows.kernelDoubledSpec) false w args)
   (Rows.kernelDoubledSpec.post enc Tryd.prog Tryd.f10 false true false false) := by
 refine returnsInHanded_of_change_and (C := Tryd.checked) (X := fun w _ => laidMetH Tryd.prog laid1 w) (fun _ _ _ hh h => h.of_heap hh) own started zk Tryd.func10
  (ChangeSpec.witness_shaped (enc := enc) (C := Tryd.checked) (os := os) (X := fun w _ => laidMetH Tryd.prog laid1 w) false (World.doorLaid Tryd.prog 600 os) #[.agg #[.int .i64 0, .int .i64 0, .int .i64 0, .slice none 0 0], .slice none 0 0, .int .i64 0] 8 rfl (World.shaped_of_RefB zk zk) zk zk zk (door_met os _)) ?_
 intro W base args ds gs before hval0 hW _ _ hL _
 have hval : ∀ (j : Nat) t v, Tryd.f10.params[j]? = some t → args[j]? = some v → Value.okWide Tryd.prog W .any base t v := hval0
 have hW' := hW
 obtain ⟨p, q, hA0, hV, rfl, hfz, hnd⟩ := hW
 have hA : DataW.TrodAll enc Tryd.prog W 0 (fun _ => true) true Tryd.f10.params.toList args.toList ds p := hA0
 rw [Tryd.params10] at hA hval
 obtain ⟨v0, vs0, d0, ds0, p0, q0, hargs, rfl, rfl, h0, r0⟩ := trodAll_cons hA
 obtain ⟨v1, vs1, d1, ds1, p1, q1, rfl, rfl, rfl, h1, r1⟩ := trodAll_cons r0
 obtain ⟨v2, vs2, d2, ds2, p2, q2, rfl, rfl, rfl, h2, r2⟩ := trodAll_cons r1
 obtain ⟨rfl, rfl, rfl⟩ := trodAll_nil r2
 obtain rfl : args = #[v0, v1, v2] := by cases args; simp_all
 obtain ⟨rfl, rfl⟩ := trodVars_none hV
 have k0 := h0
 have lt0 : ∀ x ∈ p0, x.block < W.heap.size := by obtain ⟨m, hm⟩ := k0; exact DataW.trod_lt m _ _ _ hm
 obtain ⟨T0, O0, L0, A0, R0, c0, rfl, hc0, hC0, iT0, iO0, iL0, sR0, iR0⟩ := arg_scale (hval 0 24 v0 rfl rfl) h0
 have k1 := h1
 have lt1 : ∀ x ∈ p1, x.block < W.heap.size := by obtain ⟨m, hm⟩ := k1; exact DataW.trod_lt m _ _ _ hm
 obtain ⟨A1, l1, c1, rfl, hc1, hC1, s1, i1⟩ := arg_ints (hval 1 25 v1 rfl rfl) h1
 obtain ⟨a2, rfl, rfl, rfl, w2⟩ := open_int Tryd.underlying3 (hval 2 3 v2 rfl rfl) h2
 clear hA0 hval0
 have hG := glob_of_laid hL
 refine (saronlaw06_KernelDoubled.calls (2 * R0.length + 1000) T0 O0 L0 A0 c0 R0 A1 c1 l1 a2 true W hC0 hc0 hC1 hc1 hG rfl (K.O.doubled_law T0 O0 L0 R0 l1 a2 sR0 s1 _ (Nat.le_refl _))).mono fun e W' ⟨he, bel⟩ => ?_
 subst he
 exact ⟨_, rfl, _, _, _, [], _, [], hW', trodAll_mk1 (shut_bool Tryd.underlying4 _), (trodAll_cons_mk (Below.trod laidOut zk (of_decide_eq_true zk) k0 bel lt0) (trodAll_cons_mk (Below.trod laidOut zk (of_decide_eq_true zk) k1 bel lt1) (trodAll_cons_mk (shut_int Tryd.underlying3 w2) trodAll_mk0))), rfl, bel.frame _, fun h => by cases h⟩
theorem over : Rows.kernelDoubledRow.holds Tryd.pinned (OpenSpec.ofChange Rows.kernelDoubledSpec) :=
 OpenClaim.holds_of_wide 10 Tryd.f10 rfl rfl rfl rfl rfl rfl rfl ⟨rfl, rfl, rfl, rfl, rfl⟩ rfl rfl rfl rfl rfl zk Tryd.func10 zk
  (of_decide_eq_true zk) (by unfold Func.isWrapper; first | (rw [if_pos (by decide +kernel)]; kernel_rfl) | (rw [if_neg (by decide +kernel)]; exact ⟨rfl, rfl⟩))
  (fun os started H enc _ => lifted os started H enc)
theorem proved : Rows.KernelDoubledCardSaid :=
 Claim7.holds_tied_plain_at .later [] [.funcs] true (true, "1546f209dbcbef264cbb20aea537f6d5569935ba401e115858a8843598e79524") false
  over (fun _ h => by cases h) zk (fun _ h => by cases h) kernelDoubled_row_tie rfl ⟨rfl, rfl⟩ zk rfl
  (fun f fn hf hfn => by
   obtain rfl : f = 10 := Option.some.inj ((show Tryd.prog.funcNamed "saron/saronlaw06.KernelDoubled" = some 10 by kernel_rfl).symm.trans hf) |>.symm
   obtain rfl : fn = Tryd.f10 := (Option.some.inj (Tryd.func10.symm.trans hfn)).symm
   exact ⟨by kernel_rfl, fun j t ht => by
    rw [Tryd.params10] at ht
    have hm : t ∈ [24, 25, 3] := by simpa using Array.mem_of_getElem? ht
    have hall : ([24, 25, 3].all fun u => !Tryd.prog.wantsStandIn u) = true := by kernel_rfl
    exact (show Tryd.prog.wantsStandIn t = false by simpa using List.all_eq_true.1 hall t hm)⟩)
  zk
end Go.Proofs.YtagkfkdoibnhfaaDoor.kernelDoubled
namespace Go.Proofs.YtagkfkdoibnhfaaDoor
theorem kernelDoubled_card : Rows.KernelDoubledCardSaid := kernelDoubled.proved
end Go.Proofs.YtagkfkdoibnhfaaDoor
end
