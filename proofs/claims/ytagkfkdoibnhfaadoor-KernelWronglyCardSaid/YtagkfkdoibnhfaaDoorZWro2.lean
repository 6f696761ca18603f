/- KernelWrongly: for every scale, anything heard and any numbers that choose the kernel and the strokes the law returns true, and each argument reads afterwards as it read before. Condition: when the call begins the package's table of rules reads as the program's text lays it; the card ties that to the text. -/
import Derived.Below
import Derived.Carry
import Derived.LaidMore
import Derived.OpenShut
import Derived.ProofKit
import Derived.SevenTiedAt
import Derived.SizedLaws
import Derived.Stop.Joined
import Derived.WalkKit
import Derived.Test.YtagkfkdoibnhfaaDoorCards
import Derived.Test.YtagkfkdoibnhfaaDoorTie
import Derived.Test.YtagkfkdoibnhfaaDoorZB2
import Derived.Test.YtagkfkdoibnhfaaDoorZB4
import Derived.Test.YtagkfkdoibnhfaaDoorZWro1
set_option linter.all false
section
namespace Go.Proofs.YtagkfkdoibnhfaaDoor.H
open Go.RowKit Go.Proofs.YtagkfkdoibnhfaaDoorW.PrintWords Go.Proofs.YtagkfkdoibnhfaaDoorW.PrintLast Go.Proofs.YtagkfkdoibnhfaaDoorW.PrintMore
attribute [local go_sem] max2_int min2_int max_two min_two max_three min_three max_four min_four   -- for this text's walks alone
set_option linter.unusedVariables false
set_option linter.unusedSimpArgs false
open Go.Proofs.YtagkfkdoibnhfaaDoor.K
def saronlaw06_KernelWrongly.T9 : Bool × List (List Nat × List Nat) := (true, [([], []), ([], []), ([], []), ([], []), ([2, 3], [2, 3]), ([4], [4]), ([5], [5]), ([0, 1, 6], [0, 1, 6]), ([7], [7]), ([8], [8]), ([8], [8]), ([9, 7, 0, 1, 2, 3, 4, 5, 6, 7, 8, 9], [9]), ([10, 11, 0, 1, 2, 3, 4, 5, 6, 7, 8, 9, 10, 11], [10])])
def saronlaw06_KernelWrongly.B9 : List Nat := [0, 0, 0, 0, 12, 28, 60, 127, 255, 511, 511, 1023, 4095]
theorem saronlaw06_KernelWrongly.tab9 : rtab .any (opsOf Tryd.f12 9) = saronlaw06_KernelWrongly.T9 := by kernel_rfl
theorem saronlaw06_KernelWrongly.bits9 : waitsOk saronlaw06_KernelWrongly.T9.2 saronlaw06_KernelWrongly.B9 = true := by kernel_rfl
def saronlaw06_KernelWrongly.T15 : Bool × List (List Nat × List Nat) := (true, [([], []), ([], []), ([0, 1], [0, 1]), ([2], [2]), ([3], [3]), ([], []), ([4, 5], [4, 5]), ([6], [6]), ([], []), ([], []), ([8, 9], [8, 9]), ([10], [10]), ([7, 11], [7, 11]), ([12], [12]), ([13], [13]), ([13], [13]), ([14, 15, 13], [13, 14, 15]), ([16, 13], [13, 16]), ([17, 13], [13, 17]), ([13], [13]), ([18, 19, 13], [13, 18, 19]), ([20, 13], [13, 20]), ([21, 13], [13, 21]), ([13, 22], [13, 22])])
def saronlaw06_KernelWrongly.B15 : List Nat := [0, 0, 3, 7, 15, 0, 63, 127, 0, 0, 768, 1792, 4095, 8191, 16383, 16383, 65535, 131071, 262143, 16383, 1048575, 2097151, 4194303, 8388607]
theorem saronlaw06_KernelWrongly.tab15 : rtab .any (opsOf Tryd.f12 15) = saronlaw06_KernelWrongly.T15 := by kernel_rfl
theorem saronlaw06_KernelWrongly.bits15 : waitsOk saronlaw06_KernelWrongly.T15.2 saronlaw06_KernelWrongly.B15 = true := by kernel_rfl
def saronlaw06_KernelWrongly.T35 : Bool × List (List Nat × List Nat) := (true, [([], []), ([], []), ([1], [1]), ([], []), ([3], [3]), ([2, 4, 2], [2, 4]), ([], []), ([6, 5], [6]), ([], []), ([8], [8]), ([], []), ([10], [10]), ([9, 11], [9, 11]), ([7, 12, 7], [7, 12]), ([0, 5, 0, 1, 2, 3, 4, 5, 6, 7, 8, 9, 10, 11, 12, 13], [0, 5]), ([14, 13, 13, 0, 1, 2, 3, 4, 5, 6, 7, 8, 9, 10, 11, 12, 13], [13, 14])])
def saronlaw06_KernelWrongly.B35 : List Nat := [0, 0, 2, 0, 8, 30, 0, 126, 0, 256, 0, 1024, 3840, 8190, 16383, 32767]
theorem saronlaw06_KernelWrongly.tab35 : rtab .any (opsOf Tryd.f12 35) = saronlaw06_KernelWrongly.T35 := by kernel_rfl
theorem saronlaw06_KernelWrongly.bits35 : waitsOk saronlaw06_KernelWrongly.T35.2 saronlaw06_KernelWrongly.B35 = true := by kernel_rfl
theorem keep_V {α : Type} {d : Kd α} {e base : Nat} {ok : Nat → Prop} {w w' : World} {m : Nat} {v : Value} {xs : List α} (hq : w.drewN m = w') (h : Kd.V d e w base ok v xs) : Kd.V d e w' base ok v xs := by subst hq; exact Kd.V_drewN h m
theorem keep_N {α : Type} {d : Kd α} {e base : Nat} {ok : Nat → Prop} {w w' : World} {m : Nat} {v : Value} {xs : List α} (hq : w.drewN m = w') (h : Kd.N d e w base ok v xs) : Kd.N d e w' base ok v xs := by subst hq; exact Kd.N_drewN h m
theorem k60_mkV (W : World) (ok : Nat → Prop) (x : S60) {base : Nat} {u : Value} (h : Kd.R (Kd.int .i64) 3 W base ok u x.f1) : Kd.FK k60 W ok x [.int .i64 x.f0, u] := by
 obtain ⟨A, c, rfl⟩ := Kd.R_slice h
 exact k60_mkF W ok x (Kd.R_reads' h).2.1 (Kd.R_F h)
set_option maxHeartbeats 40000000 in
set_option maxRecDepth 100000 in
theorem saronlaw06_KernelWrongly.calls (k : Nat) (a0_0 : Int) (a0_1 : Int) (a0_2 : Int) (A0_3 : Option Addr) (c0_3 : Nat) (l0_3 : List (S66)) (P1_ : Nat → Prop) (A1 : Option Addr) (c1 : Nat) (l1 : List (S60)) (A2 : Option Addr) (c2 : Nat) (l2 : List Int) (r : Bool) (w : World) (hr0_3 : Kd.C k66 w A0_3 l0_3.length l0_3) (hc0_3 : l0_3.length ≤ c0_3) (hs1 : Kd.V k60 60 w w.heap.size (fun k_ => P1_ k_) (.slice A1 l1.length c1) l1) (hr2 : Kd.C (Kd.int .i64) w A2 l2.length l2) (hc2 : l2.length ≤ c2) (hG : Glob w) (hrt : r = true) (h : saronlaw06_KernelWrongly.f k a0_0 a0_1 a0_2 l0_3 l1 l2 = some r) :
  Calls Tryd.prog 12 #[.agg #[.int .i64 a0_0, .int .i64 a0_1, .int .i64 a0_2, .slice A0_3 l0_3.length c0_3], .slice A1 l1.length c1, .slice A2 l2.length c2] w fun e w' => e = .returned (.bool r) ∧ Below w.heap.size w w' := by
 have HRT := zh hrt
 clear hrt
 have hu24 := Tryd.underlying24
 have hu60 := Tryd.underlying60
 have HG := zh hG
 clear hG
 have HR0_3 := zh hr0_3
 have HC0_3 := zh hc0_3
 clear hr0_3 hc0_3
 have HO1 := zh (show Kd.V k60 60 w w.heap.size (fun k_ => (P1_ k_ ∨ w.heap.size ≤ k_)) (.slice A1 l1.length c1) l1 from Kd.V_mono hs1 (fun k_ hk => .inl hk))
 have HR2 := zh hr2
 have HC2 := zh hc2
 clear hr2 hc2
 have HB := zh (Below.refl w.heap.size w)
 have H : ((kernel_Least.f a0_0 a0_1 a0_2 l0_3 l1).bind fun bt731 => ((kernel_Many.f a0_0 a0_1 a0_2 l0_3 l1).bind fun bt733 => (if bt731.2 = bt733.2 then (if bt731.2 = 0 then ((saronlaw06_sound.f k a0_0 a0_1 a0_2 l0_3).bind fun t735 => (if t735 = true then (saronlaw06_KernelWrongly.j0 k l1 l2 bt731.1 bt731.2 bt733.1 bt733.2 ((l1.length : Int) == 0) a0_0 a0_1 a0_2 l0_3) else (saronlaw06_KernelWrongly.j0 k l1 l2 bt731.1 bt731.2 bt733.1 bt733.2 true a0_0 a0_1 a0_2 l0_3))) else (saronlaw06_KernelWrongly.j0 k l1 l2 bt731.1 bt731.2 bt733.1 bt733.2 true a0_0 a0_1 a0_2 l0_3)) else (saronlaw06_KernelWrongly.j0 k l1 l2 bt731.1 bt731.2 bt733.1 bt733.2 true a0_0 a0_1 a0_2 l0_3)))) = some r := h
 clear h
 replace H := Option.bind_eq_some_iff.mp H
 obtain ⟨⟨t731, t732⟩, A40, H⟩ := H
 replace H : ((kernel_Many.f a0_0 a0_1 a0_2 l0_3 l1).bind fun bt733 => (if t732 = bt733.2 then (if t732 = 0 then ((saronlaw06_sound.f k a0_0 a0_1 a0_2 l0_3).bind fun t735 => (if t735 = true then (saronlaw06_KernelWrongly.j0 k l1 l2 t731 t732 bt733.1 bt733.2 ((l1.length : Int) == 0) a0_0 a0_1 a0_2 l0_3) else (saronlaw06_KernelWrongly.j0 k l1 l2 t731 t732 bt733.1 bt733.2 true a0_0 a0_1 a0_2 l0_3))) else (saronlaw06_KernelWrongly.j0 k l1 l2 t731 t732 bt733.1 bt733.2 true a0_0 a0_1 a0_2 l0_3)) else (saronlaw06_KernelWrongly.j0 k l1 l2 t731 t732 bt733.1 bt733.2 true a0_0 a0_1 a0_2 l0_3))) = some r := H
 have A4 := zh A40
 clear A40
 replace H := Option.bind_eq_some_iff.mp H
 obtain ⟨⟨t733, t734⟩, A50, H⟩ := H
 replace H : (if t732 = t734 then (if t732 = 0 then ((saronlaw06_sound.f k a0_0 a0_1 a0_2 l0_3).bind fun t735 => (if t735 = true then (saronlaw06_KernelWrongly.j0 k l1 l2 t731 t732 t733 t734 ((l1.length : Int) == 0) a0_0 a0_1 a0_2 l0_3) else (saronlaw06_KernelWrongly.j0 k l1 l2 t731 t732 t733 t734 true a0_0 a0_1 a0_2 l0_3))) else (saronlaw06_KernelWrongly.j0 k l1 l2 t731 t732 t733 t734 true a0_0 a0_1 a0_2 l0_3)) else (saronlaw06_KernelWrongly.j0 k l1 l2 t731 t732 t733 t734 true a0_0 a0_1 a0_2 l0_3)) = some r := H
 have A5 := zh A50
 clear A50
 have HC6 := zh H
 clear H
 go_enter Tryd.func12, Tryd.ntmps12
 go_upto_region 3 with (first | ((with_reducible refine gate_dst (N := 3) rfl ?_); (try (refine gate_guard (by rfl) ?_; dsimp only)); refine box_event ?hg (N := 3) ?hd (cs := #[.int .i64 a0_0, .int .i64 a0_1, .int .i64 a0_2, .slice A0_3 l0_3.length c0_3]) (t := 24) ?hr ?_; (case hd => rfl); (case hg => rfl); (case hr => first | (go_simp; done) | (go_simp; rfl)); intro gb730 hg w7 hbox hb; have n0_ := zh (Kd.V_below (Kd.V_elderB (zV HO1) gb730 (Nat.le_of_eq hg.symm)) hb); have n1_ := zh (below_step zb hb); have n2_ := zh (hbox); have n3_ := zh ((by rw [hg]; exact (below_size zb) : w.heap.size ≤ gb730)); have n4_ := zh ((by rw [hg]; exact (below_size zb) : w.heap.size ≤ gb730)); clear HO1; clear HB; have HO1 := n0_; have HB := n1_; have BK730 := n2_; have GW730 := n3_; have GE730 := n4_; clear n0_ n1_ n2_ n3_ n4_; clear hb hbox hg; have hcz8_0 : w7.cell? ⟨gb730, 0, none⟩ = some (.int .i64 a0_0) := vb BK730 0; have hcz8_1 : w7.cell? ⟨gb730, 1, none⟩ = some (.int .i64 a0_1) := vb BK730 1; have hcz8_2 : w7.cell? ⟨gb730, 2, none⟩ = some (.int .i64 a0_2) := vb BK730 2; have hcz8_3 : w7.cell? ⟨gb730, 3, none⟩ = some (.slice A0_3 l0_3.length c0_3) := vb BK730 3; have hfz8_0 := blk_frozen BK730.out 0; have hfz8_1 := blk_frozen BK730.out 1; have hfz8_2 := blk_frozen BK730.out 2; have hfz8_3 := blk_frozen BK730.out 3) | ((with_reducible refine gate_callee (f := 31) rfl ?_); refine goesL_ (some 30) rfl rfl Tryd.func31 zk rfl #[.agg #[.int .i64 a0_0, .int .i64 a0_1, .int .i64 a0_2, .slice A0_3 l0_3.length c0_3], .slice A1 l1.length c1] rfl zm ?_; (with_reducible refine (kernel_Least.calls a0_0 a0_1 a0_2 _ _ l0_3 _ _ l1 t731 t732 _ ?side1 ?side2 ?side3 ?side4 ?side5 A4.out).mono ?_); (case side1 => repeat (first | exact (Kd.C_below HR0_3.out HB.out) | (with_reducible refine Kd.C_alloc ?_ _) | (with_reducible refine Kd.C_drewN ?_ _) | (with_reducible refine Kd.C_drew ?_))); (case side2 => exact HC0_3.out); (case side3 => repeat (first | exact (Kd.V_reads' HO1.out).2.2 | (with_reducible refine Kd.C_alloc ?_ _) | (with_reducible refine Kd.C_drewN ?_ _) | (with_reducible refine Kd.C_drew ?_))); (case side4 => exact (Kd.V_reads' HO1.out).2.1); (case side5 => exact Glob.below HG.out zb); rintro e w9 ⟨rfl, hb⟩; refine ⟨_, rfl, ?_⟩; have n0_ := zh (Kd.V_below (zV HO1) hb); have n1_ := zh (blk_below (g := gb730) (o := .cells #[.int .i64 a0_0, .int .i64 a0_1, .int .i64 a0_2, .slice A0_3 l0_3.length c0_3] 24 (0, 0)) (zc BK730) hb); have n2_ := zh (below_step zb hb); clear HO1; clear BK730; clear HB; have HO1 := n0_; have BK730 := n1_; have HB := n2_; clear n0_ n1_ n2_; (try clear hb); (try clear hb2); (try clear hk); (try clear hi); have hcz10_0 : w9.cell? ⟨gb730, 0, none⟩ = some (.int .i64 a0_0) := vb BK730 0; have hcz10_1 : w9.cell? ⟨gb730, 1, none⟩ = some (.int .i64 a0_1) := vb BK730 1; have hcz10_2 : w9.cell? ⟨gb730, 2, none⟩ = some (.int .i64 a0_2) := vb BK730 2; have hcz10_3 : w9.cell? ⟨gb730, 3, none⟩ = some (.slice A0_3 l0_3.length c0_3) := vb BK730 3; have hfz10_0 := blk_frozen BK730.out 0; have hfz10_1 := blk_frozen BK730.out 1; have hfz10_2 := blk_frozen BK730.out 2; have hfz10_3 := blk_frozen BK730.out 3) | ((with_reducible refine gate_callee (f := 22) rfl ?_); refine goesL_ (some 36) rfl rfl Tryd.func22 zk rfl #[.agg #[.int .i64 a0_0, .int .i64 a0_1, .int .i64 a0_2, .slice A0_3 l0_3.length c0_3], .slice A1 l1.length c1] rfl zm ?_; (with_reducible refine (kernel_Many.calls a0_0 a0_1 a0_2 _ _ l0_3 _ _ l1 t733 t734 _ ?side1 ?side2 ?side3 ?side4 ?side5 A5.out).mono ?_); (case side1 => repeat (first | exact (Kd.C_below HR0_3.out HB.out) | (with_reducible refine Kd.C_alloc ?_ _) | (with_reducible refine Kd.C_drewN ?_ _) | (with_reducible refine Kd.C_drew ?_))); (case side2 => exact HC0_3.out); (case side3 => repeat (first | exact (Kd.V_reads' HO1.out).2.2 | (with_reducible refine Kd.C_alloc ?_ _) | (with_reducible refine Kd.C_drewN ?_ _) | (with_reducible refine Kd.C_drew ?_))); (case side4 => exact (Kd.V_reads' HO1.out).2.1); (case side5 => exact Glob.below HG.out zb); rintro e w11 ⟨rfl, hb⟩; refine ⟨_, rfl, ?_⟩; have n0_ := zh (Kd.V_below (zV HO1) hb); have n1_ := zh (blk_below (g := gb730) (o := .cells #[.int .i64 a0_0, .int .i64 a0_1, .int .i64 a0_2, .slice A0_3 l0_3.length c0_3] 24 (0, 0)) (zc BK730) hb); have n2_ := zh (below_step zb hb); clear HO1; clear BK730; clear HB; have HO1 := n0_; have BK730 := n1_; have HB := n2_; clear n0_ n1_ n2_; (try clear hb); (try clear hb2); (try clear hk); (try clear hi)))
 (try simp only [Act.put, List.setIfInBounds_toArray, List.set_cons_zero, List.set_cons_succ])
 go_cut [55] (fun v55 wc => ∃ (kq : Nat) (x55_5 : Bool), v55 = .bool x55_5 ∧ Aside0 (saronlaw06_KernelWrongly.j0 kq l1 l2 t731 t732 t733 t734 x55_5 a0_0 a0_1 a0_2 l0_3 = some r) ∧ Aside0 (kq ≤ k) ∧ Aside0 (Kd.V k60 60 wc w.heap.size (fun k_ => (P1_ k_ ∨ w.heap.size ≤ k_) ∧ k_ ≠ gb730) (.slice A1 l1.length c1) l1) ∧ Aside0 (wc.heap[gb730]? = some (.cells #[.int .i64 a0_0, .int .i64 a0_1, .int .i64 a0_2, (.slice A0_3 l0_3.length c0_3)] 24 (0, 0))) ∧ Aside0 (Below w.heap.size w wc))
 case first =>
  as_aux_lemma =>
   have H := HC6.out
   clear HC6
   by_cases c12 : t732 = t734
   ·rw [if_pos c12] at H
    have c12b0 : (t732 == t734) = true := beq_iff_eq.mpr c12
    have c12b1 : (t732 != t734) = false := bne_eq_false_iff_eq.mpr c12
    clear c12
    (first | rw [c12b0] | rw [c12b1] | (simp only [i64_w, i32_w]; first | rw [c12b0] | rw [c12b1]) | skip)
    by_cases c13 : t732 = 0
    ·rw [if_pos c13] at H
     have c13b0 : (t732 == 0) = true := beq_iff_eq.mpr c13
     have c13b1 : (t732 != 0) = false := bne_eq_false_iff_eq.mpr c13
     clear c13
     replace H := Option.bind_eq_some_iff.mp H
     obtain ⟨t735, A140, H⟩ := H
     replace H : (if t735 = true then (saronlaw06_KernelWrongly.j0 k l1 l2 t731 t732 t733 t734 ((l1.length : Int) == 0) a0_0 a0_1 a0_2 l0_3) else (saronlaw06_KernelWrongly.j0 k l1 l2 t731 t732 t733 t734 true a0_0 a0_1 a0_2 l0_3)) = some r := H
     have A14 := zh A140
     clear A140
     by_cases c15 : t735 = true
     ·subst c15
      have H1 : (saronlaw06_KernelWrongly.j0 k l1 l2 t731 t732 t733 t734 ((l1.length : Int) == 0) a0_0 a0_1 a0_2 l0_3) = some r := by rw [if_pos rfl] at H; exact H
      clear H
      have H := H1
      clear H1
      have H' := zh H
      clear H
      have hcz16_0 : w11.cell? ⟨gb730, 0, none⟩ = some (.int .i64 a0_0) := vb BK730 0
      have hcz16_1 : w11.cell? ⟨gb730, 1, none⟩ = some (.int .i64 a0_1) := vb BK730 1
      have hcz16_2 : w11.cell? ⟨gb730, 2, none⟩ = some (.int .i64 a0_2) := vb BK730 2
      have hcz16_3 : w11.cell? ⟨gb730, 3, none⟩ = some (.slice A0_3 l0_3.length c0_3) := vb BK730 3
      have hfz16_0 := blk_frozen BK730.out 0
      have hfz16_1 := blk_frozen BK730.out 1
      have hfz16_2 := blk_frozen BK730.out 2
      have hfz16_3 := blk_frozen BK730.out 3
      go_wp2_with (first | (go_at_call 39; (with_reducible refine (saronlaw06_sound.calls k a0_0 a0_1 a0_2 _ _ l0_3 true _ ?side1 ?side2 A14.out).mono ?_); (case side1 => repeat (first | exact (Kd.C_below HR0_3.out HB.out) | (with_reducible refine Kd.C_alloc ?_ _) | (with_reducible refine Kd.C_drewN ?_ _) | (with_reducible refine Kd.C_drew ?_))); (case side2 => exact HC0_3.out); rintro e w17 ⟨rfl, hb⟩; have n0_ := zh (Kd.V_below (zV HO1) hb); have n1_ := zh (blk_below (g := gb730) (o := .cells #[.int .i64 a0_0, .int .i64 a0_1, .int .i64 a0_2, .slice A0_3 l0_3.length c0_3] 24 (0, 0)) (zc BK730) hb); have n2_ := zh (below_step zb hb); clear HO1; clear BK730; clear HB; have HO1 := n0_; have BK730 := n1_; have HB := n2_; clear n0_ n1_ n2_; (try clear hb); (try clear hb2); (try clear hk); (try clear hi)))
      go_meet
      case rel => exact ⟨_, (((l1.length : Int) == 0)), ze, H', ⟨zo1⟩, ⟨zV HO1⟩, ⟨zc BK730⟩, ⟨zb⟩⟩
     ·replace c15 := Bool.eq_false_iff.mpr c15
      subst c15
      have H1 : (saronlaw06_KernelWrongly.j0 k l1 l2 t731 t732 t733 t734 true a0_0 a0_1 a0_2 l0_3) = some r := by rw [if_neg (show ¬ (false = true) by decide)] at H; exact H
      clear H
      have H := H1
      clear H1
      have H' := zh H
      clear H
      have hcz18_0 : w11.cell? ⟨gb730, 0, none⟩ = some (.int .i64 a0_0) := vb BK730 0
      have hcz18_1 : w11.cell? ⟨gb730, 1, none⟩ = some (.int .i64 a0_1) := vb BK730 1
      have hcz18_2 : w11.cell? ⟨gb730, 2, none⟩ = some (.int .i64 a0_2) := vb BK730 2
      have hcz18_3 : w11.cell? ⟨gb730, 3, none⟩ = some (.slice A0_3 l0_3.length c0_3) := vb BK730 3
      have hfz18_0 := blk_frozen BK730.out 0
      have hfz18_1 := blk_frozen BK730.out 1
      have hfz18_2 := blk_frozen BK730.out 2
      have hfz18_3 := blk_frozen BK730.out 3
      go_wp2_with (first | (go_at_call 39; (with_reducible refine (saronlaw06_sound.calls k a0_0 a0_1 a0_2 _ _ l0_3 false _ ?side1 ?side2 A14.out).mono ?_); (case side1 => repeat (first | exact (Kd.C_below HR0_3.out HB.out) | (with_reducible refine Kd.C_alloc ?_ _) | (with_reducible refine Kd.C_drewN ?_ _) | (with_reducible refine Kd.C_drew ?_))); (case side2 => exact HC0_3.out); rintro e w19 ⟨rfl, hb⟩; have n0_ := zh (Kd.V_below (zV HO1) hb); have n1_ := zh (blk_below (g := gb730) (o := .cells #[.int .i64 a0_0, .int .i64 a0_1, .int .i64 a0_2, .slice A0_3 l0_3.length c0_3] 24 (0, 0)) (zc BK730) hb); have n2_ := zh (below_step zb hb); clear HO1; clear BK730; clear HB; have HO1 := n0_; have BK730 := n1_; have HB := n2_; clear n0_ n1_ n2_; (try clear hb); (try clear hb2); (try clear hk); (try clear hi)))
      go_meet
      case rel => exact ⟨_, (true), ze, H', ⟨zo1⟩, ⟨zV HO1⟩, ⟨zc BK730⟩, ⟨zb⟩⟩
    ·rw [if_neg c13] at H
     have c13b0 : (t732 == 0) = false := beq_eq_false_iff_ne.mpr c13
     have c13b1 : (t732 != 0) = true := bne_iff_ne.mpr c13
     have H' := zh H
     clear H
     go_wp2
     go_meet
     case rel => exact ⟨_, (true), ze, H', ⟨zo1⟩, ⟨zV HO1⟩, ⟨zc BK730⟩, ⟨zb⟩⟩
   ·rw [if_neg c12] at H
    have c12b0 : (t732 == t734) = false := beq_eq_false_iff_ne.mpr c12
    have c12b1 : (t732 != t734) = true := bne_iff_ne.mpr c12
    (first | rw [c12b0] | rw [c12b1] | (simp only [i64_w, i32_w]; first | rw [c12b0] | rw [c12b1]) | skip)
    have H' := zh H
    clear H
    go_wp2
    go_meet
    case rel => exact ⟨_, (true), ze, H', ⟨zo1⟩, ⟨zV HO1⟩, ⟨zc BK730⟩, ⟨zb⟩⟩
 case rest =>
  as_aux_lemma =>
   clear HC6
   try clear c1
   try clear c2
   try clear p2
   try clear c3
   try clear c12
   try clear c12b0
   try clear c12b1
   try clear c13
   try clear c13b0
   try clear c13b1
   try clear c15
   try clear hcz10_0
   try clear hcz10_1
   try clear hcz10_2
   try clear hcz10_3
   try clear hcz16_0
   try clear hcz16_1
   try clear hcz16_2
   try clear hcz16_3
   try clear hcz18_0
   try clear hcz18_1
   try clear hcz18_2
   try clear hcz18_3
   try clear hcz8_0
   try clear hcz8_1
   try clear hcz8_2
   try clear hcz8_3
   try clear hfz10_0
   try clear hfz10_1
   try clear hfz10_2
   try clear hfz10_3
   try clear hfz16_0
   try clear hfz16_1
   try clear hfz16_2
   try clear hfz16_3
   try clear hfz18_0
   try clear hfz18_1
   try clear hfz18_2
   try clear hfz18_3
   try clear hfz8_0
   try clear hfz8_1
   try clear hfz8_2
   try clear hfz8_3
   obtain ⟨kq, x55_5, rfl, HA, HJ5, HO_1, BK730, HB⟩ := hcut
   cases kq with
   | zero => exact absurd HA.out (by simp [saronlaw06_KernelWrongly.j0])
   | succ kj5 =>
    have H := HA.out
    clear HA
    simp only [saronlaw06_KernelWrongly.j0] at H
    by_cases c20 : x55_5 = true
    ·subst c20
     have H1 : (if t732 = t734 then (if t732 = 60 then (if t731 = 0 then (if t733 = 0 then ((saronlaw06_works.f).bind fun t736 => (some t736)) else (some false)) else (some false)) else (if t732 = 61 then (if t731 = 0 then (if t733 = 0 then ((saronlaw06_works.f).bind fun t737 => (some t737)) else (some false)) else (some false)) else (some false))) else (some false)) = some r := by rw [if_pos rfl] at H; exact H
     clear H
     have H := H1
     clear H1
     by_cases c21 : t732 = t734
     ·rw [if_pos c21] at H
      have c21b0 : (t732 == t734) = true := beq_iff_eq.mpr c21
      have c21b1 : (t732 != t734) = false := bne_eq_false_iff_eq.mpr c21
      clear c21
      by_cases c22 : t732 = 60
      ·rw [if_pos c22] at H
       have c22b0 : (t732 == 60) = true := beq_iff_eq.mpr c22
       have c22b1 : (t732 != 60) = false := bne_eq_false_iff_eq.mpr c22
       clear c22
       by_cases c23 : t731 = 0
       ·rw [if_pos c23] at H
        have c23b0 : (t731 == 0) = true := beq_iff_eq.mpr c23
        have c23b1 : (t731 != 0) = false := bne_eq_false_iff_eq.mpr c23
        clear c23
        by_cases c24 : t733 = 0
        ·rw [if_pos c24] at H
         have c24b0 : (t733 == 0) = true := beq_iff_eq.mpr c24
         have c24b1 : (t733 != 0) = false := bne_eq_false_iff_eq.mpr c24
         clear c24
         replace H := Option.bind_eq_some_iff.mp H
         obtain ⟨t736, A250, H⟩ := H
         replace H : (some t736) = some r := H
         have A25 := zh A250
         clear A250
         obtain rfl := Option.some.inj H
         go_wp2_with (first | (go_at_call 21; (with_reducible refine (saronlaw06_works.calls  t736 _ ?side1 A25.out).mono ?_); (case side1 => exact Glob.below HG.out zb); rintro e w26 ⟨rfl, hb⟩; have n0_ := zh (Kd.V_below (zV HO_1) hb); have n1_ := zh (blk_below (g := gb730) (o := .cells #[.int .i64 a0_0, .int .i64 a0_1, .int .i64 a0_2, .slice A0_3 l0_3.length c0_3] 24 (0, 0)) (zc BK730) hb); have n2_ := zh (below_step zb hb); clear HO_1; clear BK730; clear HB; have HO_1 := n0_; have BK730 := n1_; have HB := n2_; clear n0_ n1_ n2_; (try clear hb); (try clear hb2); (try clear hk); (try clear hi)))
         go_ret
         exact ⟨zf, zb⟩
        ·rw [if_neg c24] at H
         have c24b0 : (t733 == 0) = false := beq_eq_false_iff_ne.mpr c24
         have c24b1 : (t733 != 0) = true := bne_iff_ne.mpr c24
         exact absurd ((Option.some.inj H).trans HRT.out) (by decide)
       ·rw [if_neg c23] at H
        have c23b0 : (t731 == 0) = false := beq_eq_false_iff_ne.mpr c23
        have c23b1 : (t731 != 0) = true := bne_iff_ne.mpr c23
        exact absurd ((Option.some.inj H).trans HRT.out) (by decide)
      ·rw [if_neg c22] at H
       have c22b0 : (t732 == 60) = false := beq_eq_false_iff_ne.mpr c22
       have c22b1 : (t732 != 60) = true := bne_iff_ne.mpr c22
       by_cases c27 : t732 = 61
       ·rw [if_pos c27] at H
        have c27b0 : (t732 == 61) = true := beq_iff_eq.mpr c27
        have c27b1 : (t732 != 61) = false := bne_eq_false_iff_eq.mpr c27
        clear c27
        by_cases c28 : t731 = 0
        ·rw [if_pos c28] at H
         have c28b0 : (t731 == 0) = true := beq_iff_eq.mpr c28
         have c28b1 : (t731 != 0) = false := bne_eq_false_iff_eq.mpr c28
         clear c28
         by_cases c29 : t733 = 0
         ·rw [if_pos c29] at H
          have c29b0 : (t733 == 0) = true := beq_iff_eq.mpr c29
          have c29b1 : (t733 != 0) = false := bne_eq_false_iff_eq.mpr c29
          clear c29
          replace H := Option.bind_eq_some_iff.mp H
          obtain ⟨t737, A300, H⟩ := H
          replace H : (some t737) = some r := H
          have A30 := zh A300
          clear A300
          obtain rfl := Option.some.inj H
          go_wp2_with (first | (go_at_call 21; (with_reducible refine (saronlaw06_works.calls  t737 _ ?side1 A30.out).mono ?_); (case side1 => exact Glob.below HG.out zb); rintro e w31 ⟨rfl, hb⟩; have n0_ := zh (Kd.V_below (zV HO_1) hb); have n1_ := zh (blk_below (g := gb730) (o := .cells #[.int .i64 a0_0, .int .i64 a0_1, .int .i64 a0_2, .slice A0_3 l0_3.length c0_3] 24 (0, 0)) (zc BK730) hb); have n2_ := zh (below_step zb hb); clear HO_1; clear BK730; clear HB; have HO_1 := n0_; have BK730 := n1_; have HB := n2_; clear n0_ n1_ n2_; (try clear hb); (try clear hb2); (try clear hk); (try clear hi)))
          go_ret
          exact ⟨zf, zb⟩
         ·rw [if_neg c29] at H
          have c29b0 : (t733 == 0) = false := beq_eq_false_iff_ne.mpr c29
          have c29b1 : (t733 != 0) = true := bne_iff_ne.mpr c29
          exact absurd ((Option.some.inj H).trans HRT.out) (by decide)
        ·rw [if_neg c28] at H
         have c28b0 : (t731 == 0) = false := beq_eq_false_iff_ne.mpr c28
         have c28b1 : (t731 != 0) = true := bne_iff_ne.mpr c28
         exact absurd ((Option.some.inj H).trans HRT.out) (by decide)
       ·rw [if_neg c27] at H
        have c27b0 : (t732 == 61) = false := beq_eq_false_iff_ne.mpr c27
        have c27b1 : (t732 != 61) = true := bne_iff_ne.mpr c27
        exact absurd ((Option.some.inj H).trans HRT.out) (by decide)
     ·rw [if_neg c21] at H
      have c21b0 : (t732 == t734) = false := beq_eq_false_iff_ne.mpr c21
      have c21b1 : (t732 != t734) = true := bne_iff_ne.mpr c21
      exact absurd ((Option.some.inj H).trans HRT.out) (by decide)
    ·replace c20 := Bool.eq_false_iff.mpr c20
     subst c20
     have H1 : ((saronlaw06_truly.f kj5 a0_0 a0_1 a0_2 l0_3 l2).bind fun t738 => (saronlaw06_KernelWrongly.l0 kj5 l1 l2 t731 t733 t738 0 0 a0_0 a0_1 a0_2 l0_3)) = some r := by rw [if_neg (show ¬ (false = true) by decide)] at H; exact H
     clear H
     have H := H1
     clear H1
     replace H := Option.bind_eq_some_iff.mp H
     obtain ⟨t738, A320, H⟩ := H
     replace H : (saronlaw06_KernelWrongly.l0 kj5 l1 l2 t731 t733 t738 0 0 a0_0 a0_1 a0_2 l0_3) = some r := H
     have A32 := zh A320
     clear A320
     have H' := zh H
     clear H
     have hcz33_0 : wc.cell? ⟨gb730, 0, none⟩ = some (.int .i64 a0_0) := vb BK730 0
     have hcz33_1 : wc.cell? ⟨gb730, 1, none⟩ = some (.int .i64 a0_1) := vb BK730 1
     have hcz33_2 : wc.cell? ⟨gb730, 2, none⟩ = some (.int .i64 a0_2) := vb BK730 2
     have hcz33_3 : wc.cell? ⟨gb730, 3, none⟩ = some (.slice A0_3 l0_3.length c0_3) := vb BK730 3
     have hfz33_0 := blk_frozen BK730.out 0
     have hfz33_1 := blk_frozen BK730.out 1
     have hfz33_2 := blk_frozen BK730.out 2
     have hfz33_3 := blk_frozen BK730.out 3
     go_wp2_with (first | ((with_reducible refine gate_callee (f := 40) rfl ?_); refine goesL_ (some 80) rfl rfl Tryd.func40 zk rfl #[.agg #[.int .i64 a0_0, .int .i64 a0_1, .int .i64 a0_2, .slice A0_3 l0_3.length c0_3], .slice A2 l2.length c2] rfl zm ?_; (with_reducible refine (saronlaw06_truly.calls kj5 a0_0 a0_1 a0_2 _ _ l0_3 _ _ l2 t738 _ ?side1 ?side2 ?side3 ?side4 A32.out).mono ?_); (case side1 => repeat (first | exact (Kd.C_below HR0_3.out HB.out) | (with_reducible refine Kd.C_alloc ?_ _) | (with_reducible refine Kd.C_drewN ?_ _) | (with_reducible refine Kd.C_drew ?_))); (case side2 => exact HC0_3.out); (case side3 => repeat (first | exact (Kd.C_below HR2.out HB.out) | (with_reducible refine Kd.C_alloc ?_ _) | (with_reducible refine Kd.C_drewN ?_ _) | (with_reducible refine Kd.C_drew ?_))); (case side4 => exact HC2.out); rintro e w34 ⟨v739, rfl, ho0, hb⟩; refine ⟨_, rfl, ?_⟩; have n0_ := zh (Kd.V_elder' (zV HO_1) (Kd.R_base ho0) hb); have n1_ := zh (Kd.R_lower (Kd.R_newM (M := fun k_ => (w.heap.size ≤ k_)) ho0 (below_size zb) (fun k_ h_ => h_)) (below_size zb)); have n2_ := zh (blk_below (g := gb730) (o := .cells #[.int .i64 a0_0, .int .i64 a0_1, .int .i64 a0_2, .slice A0_3 l0_3.length c0_3] 24 (0, 0)) (zc BK730) hb); have n3_ := zh (below_step zb hb); clear HO_1; clear BK730; clear HB; have HO_1 := n0_; have HO740 := n1_; have BK730 := n2_; have HB := n3_; clear n0_ n1_ n2_ n3_; (try clear hb); (try clear hb2); (try clear hk); (try clear hi); (try clear ho0)))
     go_loopg [12, 13] kj5 (fun kq v12 v13 w' => ∃ (x12_2 : Int) (x13_2 : Int), v12 = .int .i64 x12_2 ∧ v13 = .int .i64 x13_2 ∧ Aside0 (saronlaw06_KernelWrongly.l0 kq l1 l2 t731 t733 t738 x12_2 x13_2 a0_0 a0_1 a0_2 l0_3 = some r) ∧ Aside0 (kq ≤ kj5) ∧ Aside0 (Kd.V k60 60 w' w.heap.size (fun k_ => (P1_ k_ ∨ w.heap.size ≤ k_) ∧ some k_ ≠ (v739 : Value).ownBlock ∧ k_ ≠ gb730) (.slice A1 l1.length c1) l1) ∧ Aside0 (Kd.R (Kd.int .i64) 3 w' w.heap.size (fun k_ => (w.heap.size ≤ k_)) v739 t738) ∧ Aside0 (w'.heap[gb730]? = some (.cells #[.int .i64 a0_0, .int .i64 a0_1, .int .i64 a0_2, (.slice A0_3 l0_3.length c0_3)] 24 (0, 0))) ∧ Aside0 (Below w.heap.size w w'))
     case atStart => exact ⟨(0), (0), ze, ze, H', ⟨Nat.le_refl _⟩, ⟨by (with_reducible repeat (first | apply Kd.V_alloc | apply Kd.V_drewN | apply Kd.V_drew)); exact Kd.V_mono HO_1.out (fun _ hk => ⟨hk.1.1, ⟨hk.2, hk.1.2⟩⟩)⟩, ⟨by (with_reducible repeat (first | apply Kd.R_alloc | apply Kd.R_drewN | apply Kd.R_drew)); exact Kd.R_mono HO740.out (fun _ hk => hk.1)⟩, ⟨zc BK730⟩, ⟨zb⟩⟩
     case round =>
      as_aux_lemma =>
       clear H'
       try clear c1
       try clear c2
       try clear p2
       try clear c3
       try clear c4
       try clear c12
       try clear c12b0
       try clear c12b1
       try clear c13
       try clear c13b0
       try clear c13b1
       try clear c15
       try clear c20
       try clear c21
       try clear c21b0
       try clear c21b1
       try clear c22
       try clear c22b0
       try clear c22b1
       try clear c23
       try clear c23b0
       try clear c23b1
       try clear c24
       try clear c24b0
       try clear c24b1
       try clear c27
       try clear c27b0
       try clear c27b1
       try clear c28
       try clear c28b0
       try clear c28b1
       try clear c29
       try clear c29b0
       try clear c29b1
       try clear c31
       try clear hcz10_0
       try clear hcz10_1
       try clear hcz10_2
       try clear hcz10_3
       try clear hcz16_0
       try clear hcz16_1
       try clear hcz16_2
       try clear hcz16_3
       try clear hcz18_0
       try clear hcz18_1
       try clear hcz18_2
       try clear hcz18_3
       try clear hcz33_0
       try clear hcz33_1
       try clear hcz33_2
       try clear hcz33_3
       try clear hcz8_0
       try clear hcz8_1
       try clear hcz8_2
       try clear hcz8_3
       try clear hfz10_0
       try clear hfz10_1
       try clear hfz10_2
       try clear hfz10_3
       try clear hfz16_0
       try clear hfz16_1
       try clear hfz16_2
       try clear hfz16_3
       try clear hfz18_0
       try clear hfz18_1
       try clear hfz18_2
       try clear hfz18_3
       try clear hfz33_0
       try clear hfz33_1
       try clear hfz33_2
       try clear hfz33_3
       try clear hfz8_0
       try clear hfz8_1
       try clear hfz8_2
       try clear hfz8_3
       try clear p2
       obtain ⟨x12_2, x13_2, rfl, rfl, HA, HK2, HO_1, HO_11, BK730, HB⟩ := hrel
       cases gk with
       | zero => exact absurd HA.out (by simp [saronlaw06_KernelWrongly.l0])
       | succ k2 =>
        have H := HA.out
        clear HA
        simp only [saronlaw06_KernelWrongly.l0] at H
        by_cases c35 : x13_2 < (l1.length : Int)
        ·rw [if_pos c35] at H
         have c35b0 : decide (x13_2 < (l1.length : Int)) = true := decide_eq_true c35
         clear c35
         by_cases c36 : 0 ≤ x13_2
         ·rw [if_pos c36] at H
          have c36b0 : decide (0 ≤ x13_2) = true := decide_eq_true c36
          clear c36
          replace H := Option.bind_eq_some_iff.mp H
          obtain ⟨⟨t742, t745⟩, A370, H⟩ := H
          replace H : (if t745 = 0 then (saronlaw06_KernelWrongly.j2 k2 l1 l2 t731 t733 t738 x12_2 x13_2 t742 ((t742.length : Int) != (((rd_T60 l1 x13_2).f1).length : Int)) a0_0 a0_1 a0_2 l0_3) else (saronlaw06_KernelWrongly.j2 k2 l1 l2 t731 t733 t738 x12_2 x13_2 t742 true a0_0 a0_1 a0_2 l0_3)) = some r := H
          have A37 := zh A370
          clear A370
          have HC38 := zh H
          clear H
          try go_wp2
          replace HO_1 := zh (Kd.V_drew HO_1.out)
          replace HO_11 := zh (Kd.R_drew HO_11.out)
          replace BK730 := zh (blk_drew BK730.out)
          replace HB := zh (below_drew1 HB.out)
          have p741 : 0 ≤ (x13_2 : Int) := of_decide_eq_true zs
          have q741 : x13_2 < (l1.length : Int) := of_decide_eq_true zs
          obtain ⟨ad741, A741_1, c741_1, e741, hx741_0, hx741_1, hl741_1, hi741_1⟩ := at_T60 (Kd.V_reads' HO_1.out).2.2 x13_2 p741 q741
          cases e741
          obtain ⟨ce741, hce741, hMe741, hcc741⟩ := Kd.V_get HO_1.out z60 x13_2 p741 (by first | exact q741 | exact of_decide_eq_true zs | (have e_ := (Kd.V_reads' HO_1.out).1; omega))
          obtain ⟨ua741_1, uc741_1, rfl, ul741_1, ge741_1⟩ := k60_openF hMe741
          have hv741_1 := hcc741 1 _ rfl
          rw [add_field _ _ 1 (by omega)] at hv741_1
          replace hv741_1 := Option.some.inj (hv741_1.symm.trans hx741_1)
          injection hv741_1 with hva_ hvn_ hvc_
          rw [hva_] at ge741_1
          rw [hvc_] at ul741_1
          have HL741_1 := zh (show Kd.V (Kd.int .i64) 3 _ w.heap.size _ _ ((rd_T60 l1 x13_2).f1) from Kd.V_mk ul741_1 ge741_1)
          clear hva_ hvn_ hvc_ ge741_1 ul741_1 hcc741 hce741
          have HR741_1 := zh hi741_1
          have HC741_1 := zh hl741_1
          clear hi741_1 hl741_1
          replace p741 := eq_true p741
          replace q741 := eq_true q741
          obtain ⟨Ao40, co40, eo40⟩ := Kd.R_slice HO_11.out
          (first | subst eo40 | (injection eo40 with f1_ f2_ f3_; have f4_ := f1_.symm; have f5_ := f3_.symm; clear f1_ f2_ f3_; subst f4_; subst f5_))
          refine start_ (n := 13) (S := fun w' => w'.cell? ⟨gb730, 0, none⟩ = some (.int .i64 a0_0) ∧ w'.cell? ⟨gb730, 1, none⟩ = some (.int .i64 a0_1) ∧ w'.cell? ⟨gb730, 2, none⟩ = some (.int .i64 a0_2) ∧ w'.cell? ⟨gb730, 3, none⟩ = some (.slice A0_3 l0_3.length c0_3) ∧ w'.cell? (ad741.add ((x13_2).toNat * 2)) = some (.int .i64 ((rd_T60 l1 x13_2).f0)) ∧ w'.cell? ⟨(ad741.add ((x13_2).toNat * 2)).block, (ad741.add ((x13_2).toNat * 2)).off + 1, none⟩ = some (.slice A741_1 ((rd_T60 l1 x13_2).f1).length c741_1)) (ds := []) (Array.replicate 13 false) zk rfl rfl ⟨vb BK730 0, vb BK730 1, vb BK730 2, vb BK730 3, hx741_0, hx741_1⟩ (fun hHeld => ?_); refine with_tabW saronlaw06_KernelWrongly.tab9 saronlaw06_KernelWrongly.bits9 (fun HT_ HW_ => ?_)
          generalize wr.drew = w39 at HO_1 HO_11 BK730 HB HL741_1 HR741_1 hx741_0 hx741_1 hHeld ⊢
          refine zu 1 ?_
          refine zu 2 ?_
          refine zu 3 ?_
          refine zu 4 ?_
          refine zu 5 ?_
          refine zt 0 ?_
          refine zt 6 ?_
          refine zo 7 (fun K hK => ?_)
          refine goes_ Tryd.func16 zk rfl #[.agg #[.int .i64 a0_0, .int .i64 a0_1, .int .i64 a0_2, .slice A0_3 l0_3.length c0_3], .slice Ao40 t738.length co40, .int .i64 ((rd_T60 l1 x13_2).f0)] (by rfl) rfl rfl zm ?_
          with_reducible refine (kernel_Part.calls a0_0 a0_1 a0_2 _ _ l0_3 _ _ t738 ((rd_T60 l1 x13_2).f0) t742 t745 _ ?side1 ?side2 ?side3 ?side4 ?side5 A37.out).mono ?_
          (case side1 => repeat (first | exact (Kd.C_below HR0_3.out HB.out) | (with_reducible refine Kd.C_alloc ?_ _) | (with_reducible refine Kd.C_drewN ?_ _) | (with_reducible refine Kd.C_drew ?_)))
          (case side2 => exact HC0_3.out)
          (case side3 => repeat (first | exact (Kd.R_reads' HO_11.out).2.2 | (with_reducible refine Kd.C_alloc ?_ _) | (with_reducible refine Kd.C_drewN ?_ _) | (with_reducible refine Kd.C_drew ?_)))
          (case side4 => exact (Kd.R_reads' HO_11.out).2.1)
          (case side5 => exact Glob.below HG.out zb)
          rintro e w41 ⟨v743, rfl, ho0, hb⟩
          have HS4_ := (hb.cell (World.block_lt_of_cell? _ _ (hHeld.2.2.2.2.1))).trans (hHeld.2.2.2.2.1)
          have HS5_ := (hb.cell (World.block_lt_of_cell? _ _ (hHeld.2.2.2.2.2))).trans (hHeld.2.2.2.2.2)
          refine ⟨_, rfl, ?_⟩
          replace HO_1 := zh (Kd.V_below (zV HO_1) hb)
          replace HL741_1 := zh (Kd.V_below (by (with_reducible repeat (first | apply Kd.V_alloc | apply Kd.V_drewN | apply Kd.V_drew)); exact HL741_1.out) hb)
          have HO744 := zh (Kd.V_lower (Kd.V_mono (ok' := fun k_ => (P1_ k_ ∨ w.heap.size ≤ k_) ∧ some k_ ≠ (.slice Ao40 t738.length co40 : Value).ownBlock ∧ k_ ≠ gb730) ho0 (fun k_ hk_ => ⟨(.inr (Nat.le_trans (below_size zb) hk_)), (Kd.fresh' (Kd.R_lt (zR HO_11)) k_ hk_), (Kd.freshB (g := gb730) (o := .cells #[.int .i64 a0_0, .int .i64 a0_1, .int .i64 a0_2, .slice A0_3 l0_3.length c0_3] 24 (0, 0)) (zc BK730) k_ hk_)⟩)) (below_size zb))
          replace HO_11 := zh (Kd.R_below (zR HO_11) hb)
          replace BK730 := zh (blk_below (g := gb730) (o := .cells #[.int .i64 a0_0, .int .i64 a0_1, .int .i64 a0_2, .slice A0_3 l0_3.length c0_3] 24 (0, 0)) (zc BK730) hb)
          replace HR741_1 := zh (Kd.C_below (by repeat (first | (with_reducible exact HR741_1.out) | (with_reducible refine Kd.C_alloc ?_ _) | (with_reducible refine Kd.C_drewN ?_ _) | (with_reducible refine Kd.C_drew ?_) | exact HR741_1.out)) hb)
          replace HB := zh (below_step zb hb)
          (try clear hb)
          (try clear hb2)
          (try clear hk)
          (try clear hi)
          (try clear ho0)
          refine hK.out _ _ ⟨vb BK730 0, vb BK730 1, vb BK730 2, vb BK730 3, HS4_, HS5_⟩ (fun hHeld => ?_)
          clear hK K
          refine zr 95 _ ?_
          refine zu 8 ?_
          refine zu 9 ?_
          refine zu 10 ?_
          refine zu 11 ?_
          refine zu 12 ?_
          refine zd ?_
          go_upto_region 10 with (fail)
          go_cut [110] (fun v110 wc => ∃ (kq : Nat) (x110_37 : Bool), v110 = .bool x110_37 ∧ Aside0 (saronlaw06_KernelWrongly.j2 kq l1 l2 t731 t733 t738 x12_2 x13_2 t742 x110_37 a0_0 a0_1 a0_2 l0_3 = some r) ∧ Aside0 (kq ≤ k2) ∧ Aside0 (Kd.V k60 60 wc w.heap.size (fun k_ => (P1_ k_ ∨ w.heap.size ≤ k_) ∧ some k_ ≠ ((.slice Ao40 t738.length co40) : Value).ownBlock ∧ k_ ≠ gb730) (.slice (some ad741) l1.length c1) l1) ∧ Aside0 (Kd.R (Kd.int .i64) 3 wc w.heap.size (fun k_ => (w.heap.size ≤ k_)) (.slice Ao40 t738.length co40) t738) ∧ Aside0 (Kd.V (Kd.int .i64) 3 wc w.heap.size (fun k_ => (P1_ k_ ∨ w.heap.size ≤ k_) ∧ some k_ ≠ ((.slice Ao40 t738.length co40) : Value).ownBlock ∧ k_ ≠ gb730) v743 t742) ∧ Aside0 (wc.heap[gb730]? = some (.cells #[.int .i64 a0_0, .int .i64 a0_1, .int .i64 a0_2, (.slice A0_3 l0_3.length c0_3)] 24 (0, 0))) ∧ Aside0 (Kd.C (Kd.int .i64) wc A741_1 ((rd_T60 l1 x13_2).f1).length ((rd_T60 l1 x13_2).f1)) ∧ Aside0 (Below w.heap.size w wc))
          case first =>
           as_aux_lemma =>
            have H := HC38.out
            clear HC38
            by_cases c42 : t745 = 0
            ·rw [if_pos c42] at H
             have c42b0 : (t745 == 0) = true := beq_iff_eq.mpr c42
             have c42b1 : (t745 != 0) = false := bne_eq_false_iff_eq.mpr c42
             clear c42
             (first | rw [c42b0] | rw [c42b1] | (simp only [i64_w, i32_w]; first | rw [c42b0] | rw [c42b1]) | skip)
             have H' := zh H
             clear H
             obtain ⟨Ao43, co43, eo43⟩ := Kd.V_slice HO744.out
             subst eo43
             have p746 : 0 ≤ (x13_2 : Int) := of_decide_eq_true zs
             have q746 : x13_2 < (l1.length : Int) := of_decide_eq_true zs
             obtain ⟨ad746, A746_1, c746_1, e746, hx746_0, hx746_1, hl746_1, hi746_1⟩ := at_T60 (Kd.V_reads' HO_1.out).2.2 x13_2 p746 q746
             obtain rfl : ad741 = ad746 := (by injection e746)
             obtain ⟨ce746, hce746, hMe746, hcc746⟩ := Kd.V_get HO_1.out z60 x13_2 p746 (by first | exact q746 | exact of_decide_eq_true zs | (have e_ := (Kd.V_reads' HO_1.out).1; omega))
             obtain ⟨ua746_1, uc746_1, rfl, ul746_1, ge746_1⟩ := k60_openF hMe746
             have hv746_1 := hcc746 1 _ rfl
             rw [add_field _ _ 1 (by omega)] at hv746_1
             replace hv746_1 := Option.some.inj (hv746_1.symm.trans hx746_1)
             injection hv746_1 with hva_ hvn_ hvc_
             rw [hva_] at ge746_1
             rw [hvc_] at ul746_1
             have HL746_1 := zh (show Kd.V (Kd.int .i64) 3 _ w.heap.size _ _ ((rd_T60 l1 x13_2).f1) from Kd.V_mk ul746_1 ge746_1)
             clear hva_ hvn_ hvc_ ge746_1 ul746_1 hcc746 hce746
             have HR746_1 := zh hi746_1
             have HC746_1 := zh hl746_1
             clear hi746_1 hl746_1
             replace p746 := eq_true p746
             replace q746 := eq_true q746
             go_wp2
             go_meet
             case rel => exact ⟨_, (((t742.length : Int) != (((rd_T60 l1 x13_2).f1).length : Int))), ze, H', ⟨by have := HJ5.out; have := HK2.out; first | omega | exact Nat.le_refl _⟩, ⟨zV HO_1⟩, ⟨zR HO_11⟩, ⟨zV HO744⟩, ⟨zc BK730⟩, ⟨by repeat (first | (with_reducible exact HR741_1.out) | (with_reducible refine Kd.C_alloc ?_ _) | (with_reducible refine Kd.C_drewN ?_ _) | (with_reducible refine Kd.C_drew ?_) | exact HR741_1.out)⟩, ⟨zb⟩⟩
            ·rw [if_neg c42] at H
             have c42b0 : (t745 == 0) = false := beq_eq_false_iff_ne.mpr c42
             have c42b1 : (t745 != 0) = true := bne_iff_ne.mpr c42
             (first | rw [c42b0] | rw [c42b1] | (simp only [i64_w, i32_w]; first | rw [c42b0] | rw [c42b1]) | skip)
             have H' := zh H
             clear H
             go_wp2
             go_meet
             case rel => exact ⟨_, (true), ze, H', ⟨by have := HJ5.out; have := HK2.out; first | omega | exact Nat.le_refl _⟩, ⟨zV HO_1⟩, ⟨zR HO_11⟩, ⟨zV HO744⟩, ⟨zc BK730⟩, ⟨by repeat (first | (with_reducible exact HR741_1.out) | (with_reducible refine Kd.C_alloc ?_ _) | (with_reducible refine Kd.C_drewN ?_ _) | (with_reducible refine Kd.C_drew ?_) | exact HR741_1.out)⟩, ⟨zb⟩⟩
          case rest =>
           as_aux_lemma =>
            clear HC38
            try clear c1
            try clear c2
            try clear p2
            try clear c3
            try clear c4
            try clear c7
            try clear p7
            try clear q7
            try clear hx7
            try clear c12
            try clear c12b0
            try clear c12b1
            try clear c13
            try clear c13b0
            try clear c13b1
            try clear c15
            try clear c16
            try clear c20
            try clear c21
            try clear c21b0
            try clear c21b1
            try clear c22
            try clear c22b0
            try clear c22b1
            try clear c23
            try clear c23b0
            try clear c23b1
            try clear c24
            try clear c24b0
            try clear c24b1
            try clear c27
            try clear c27b0
            try clear c27b1
            try clear c28
            try clear c28b0
            try clear c28b1
            try clear c29
            try clear c29b0
            try clear c29b1
            try clear c31
            try clear c35
            try clear c35b0
            try clear c36
            try clear c36b0
            try clear c40
            try clear c42
            try clear c42b0
            try clear c42b1
            try clear hcz10_0
            try clear hcz10_1
            try clear hcz10_2
            try clear hcz10_3
            try clear hcz16_0
            try clear hcz16_1
            try clear hcz16_2
            try clear hcz16_3
            try clear hcz18_0
            try clear hcz18_1
            try clear hcz18_2
            try clear hcz18_3
            try clear hcz33_0
            try clear hcz33_1
            try clear hcz33_2
            try clear hcz33_3
            try clear hcz8_0
            try clear hcz8_1
            try clear hcz8_2
            try clear hcz8_3
            try clear hfz10_0
            try clear hfz10_1
            try clear hfz10_2
            try clear hfz10_3
            try clear hfz16_0
            try clear hfz16_1
            try clear hfz16_2
            try clear hfz16_3
            try clear hfz18_0
            try clear hfz18_1
            try clear hfz18_2
            try clear hfz18_3
            try clear hfz33_0
            try clear hfz33_1
            try clear hfz33_2
            try clear hfz33_3
            try clear hfz8_0
            try clear hfz8_1
            try clear hfz8_2
            try clear hfz8_3
            try clear hx741_0
            try clear hx741_1
            try clear hx746_0
            try clear hx746_1
            try clear p2
            try clear p741
            try clear p746
            try clear q741
            try clear q746
            obtain ⟨kq, x110_37, rfl, HA, HJ37, HO_1, HO_11, HO_14, BK730, HR741_1, HB⟩ := hcut
            cases kq with
            | zero => exact absurd HA.out (by simp [saronlaw06_KernelWrongly.j2])
            | succ kj37 =>
             have H := HA.out
             clear HA
             simp only [saronlaw06_KernelWrongly.j2] at H
             by_cases c44 : x110_37 = true
             ·subst c44
              have H1 : (some false) = some r := by rw [if_pos rfl] at H; exact H
              clear H
              have H := H1
              clear H1
              exact absurd ((Option.some.inj H).trans HRT.out) (by decide)
             ·replace c44 := Bool.eq_false_iff.mpr c44
              subst c44
              have H1 : (saronlaw06_KernelWrongly.l1 kj37 l1 l2 t731 t733 t738 x12_2 x13_2 t742 0 a0_0 a0_1 a0_2 l0_3) = some r := by rw [if_neg (show ¬ (false = true) by decide)] at H; exact H
              clear H
              have H := H1
              clear H1
              have H' := zh H
              clear H
              go_wp2
              go_loopg [12, 16] kj37 (fun kq v12 v16 w' => ∃ (x12_4 : Int) (x16_4 : Int), v12 = .int .i64 x12_4 ∧ v16 = .int .i64 x16_4 ∧ Aside0 (saronlaw06_KernelWrongly.l1 kq l1 l2 t731 t733 t738 x12_4 x13_2 t742 x16_4 a0_0 a0_1 a0_2 l0_3 = some r) ∧ Aside0 (kq ≤ kj37) ∧ Aside0 (Kd.V k60 60 w' w.heap.size (fun k_ => (P1_ k_ ∨ w.heap.size ≤ k_) ∧ some k_ ≠ ((.slice Ao40 t738.length co40) : Value).ownBlock ∧ k_ ≠ gb730) (.slice (some ad741) l1.length c1) l1) ∧ Aside0 (Kd.R (Kd.int .i64) 3 w' w.heap.size (fun k_ => (w.heap.size ≤ k_)) (.slice Ao40 t738.length co40) t738) ∧ Aside0 (Kd.V (Kd.int .i64) 3 w' w.heap.size (fun k_ => (P1_ k_ ∨ w.heap.size ≤ k_) ∧ some k_ ≠ ((.slice Ao40 t738.length co40) : Value).ownBlock ∧ k_ ≠ gb730) v743 t742) ∧ Aside0 (w'.heap[gb730]? = some (.cells #[.int .i64 a0_0, .int .i64 a0_1, .int .i64 a0_2, (.slice A0_3 l0_3.length c0_3)] 24 (0, 0))) ∧ Aside0 (Kd.C (Kd.int .i64) w' A741_1 ((rd_T60 l1 x13_2).f1).length ((rd_T60 l1 x13_2).f1)) ∧ Aside0 (Below w.heap.size w w'))
              case atStart => exact ⟨(x12_2), (0), ze, ze, H', ⟨Nat.le_refl _⟩, ⟨zV HO_1⟩, ⟨zR HO_11⟩, ⟨zV HO_14⟩, ⟨zc BK730⟩, ⟨by repeat (first | (with_reducible exact HR741_1.out) | (with_reducible refine Kd.C_alloc ?_ _) | (with_reducible refine Kd.C_drewN ?_ _) | (with_reducible refine Kd.C_drew ?_) | exact HR741_1.out)⟩, ⟨zb⟩⟩
              case round =>
               as_aux_lemma =>
                clear H'
                try clear c1
                try clear c2
                try clear p2
                try clear c3
                try clear c4
                try clear c7
                try clear p7
                try clear q7
                try clear hx7
                try clear c12
                try clear c12b0
                try clear c12b1
                try clear c13
                try clear c13b0
                try clear c13b1
                try clear c15
                try clear c16
                try clear c20
                try clear c21
                try clear c21b0
                try clear c21b1
                try clear c22
                try clear c22b0
                try clear c22b1
                try clear c23
                try clear c23b0
                try clear c23b1
                try clear c24
                try clear c24b0
                try clear c24b1
                try clear c27
                try clear c27b0
                try clear c27b1
                try clear c28
                try clear c28b0
                try clear c28b1
                try clear c29
                try clear c29b0
                try clear c29b1
                try clear c31
                try clear c35
                try clear c35b0
                try clear c36
                try clear c36b0
                try clear c40
                try clear c42
                try clear c42b0
                try clear c42b1
                try clear c44
                try clear hcz10_0
                try clear hcz10_1
                try clear hcz10_2
                try clear hcz10_3
                try clear hcz16_0
                try clear hcz16_1
                try clear hcz16_2
                try clear hcz16_3
                try clear hcz18_0
                try clear hcz18_1
                try clear hcz18_2
                try clear hcz18_3
                try clear hcz33_0
                try clear hcz33_1
                try clear hcz33_2
                try clear hcz33_3
                try clear hcz8_0
                try clear hcz8_1
                try clear hcz8_2
                try clear hcz8_3
                try clear hfz10_0
                try clear hfz10_1
                try clear hfz10_2
                try clear hfz10_3
                try clear hfz16_0
                try clear hfz16_1
                try clear hfz16_2
                try clear hfz16_3
                try clear hfz18_0
                try clear hfz18_1
                try clear hfz18_2
                try clear hfz18_3
                try clear hfz33_0
                try clear hfz33_1
                try clear hfz33_2
                try clear hfz33_3
                try clear hfz8_0
                try clear hfz8_1
                try clear hfz8_2
                try clear hfz8_3
                try clear hx741_0
                try clear hx741_1
                try clear hx746_0
                try clear hx746_1
                try clear p2
                try clear p7
                try clear p741
                try clear p746
                try clear q7
                try clear q741
                try clear q746
                obtain ⟨x12_4, x16_4, rfl, rfl, HA, HK4, HO_1, HO_11, HO_14, BK730, HR741_1, HB⟩ := hrel
                cases gk with
                | zero => exact absurd HA.out (by simp [saronlaw06_KernelWrongly.l1])
                | succ k4 =>
                 have H := HA.out
                 clear HA
                 simp only [saronlaw06_KernelWrongly.l1] at H
                 by_cases c45 : x16_4 < (t742.length : Int)
                 ·rw [if_pos c45] at H
                  have c45b0 : decide (x16_4 < (t742.length : Int)) = true := decide_eq_true c45
                  clear c45
                  by_cases c46 : 0 ≤ x13_2
                  ·rw [if_pos c46] at H
                   have c46b0 : decide (0 ≤ x13_2) = true := decide_eq_true c46
                   clear c46
                   by_cases c47 : x13_2 < (l1.length : Int)
                   ·rw [if_pos c47] at H
                    have c47b0 : decide (x13_2 < (l1.length : Int)) = true := decide_eq_true c47
                    clear c47
                    by_cases c48 : 0 ≤ x16_4
                    ·rw [if_pos c48] at H
                     have c48b0 : decide (0 ≤ x16_4) = true := decide_eq_true c48
                     clear c48
                     by_cases c49 : x16_4 < (((rd_T60 l1 x13_2).f1).length : Int)
                     ·rw [if_pos c49] at H
                      have c49b0 : decide (x16_4 < (((rd_T60 l1 x13_2).f1).length : Int)) = true := decide_eq_true c49
                      clear c49
                      by_cases c50 : (rd ((rd_T60 l1 x13_2).f1) x16_4) = (rd t742 x16_4)
                      ·rw [if_pos c50] at H
                       have c50b0 : ((rd ((rd_T60 l1 x13_2).f1) x16_4) == (rd t742 x16_4)) = true := beq_iff_eq.mpr c50
                       have c50b1 : ((rd ((rd_T60 l1 x13_2).f1) x16_4) != (rd t742 x16_4)) = false := bne_eq_false_iff_eq.mpr c50
                       clear c50
                       have H' := zh H
                       clear H
                       obtain ⟨Ao51, co51, eo51⟩ := Kd.V_slice HO_14.out
                       subst eo51
                       try go_wp2
                       replace HO_1 := zh (Kd.V_drew HO_1.out)
                       replace HO_11 := zh (Kd.R_drew HO_11.out)
                       replace HO_14 := zh (Kd.V_drew HO_14.out)
                       replace BK730 := zh (blk_drew BK730.out)
                       replace HR741_1 := zh (Kd.C_drew HR741_1.out)
                       replace HB := zh (below_drew1 HB.out)
                       have p747 : 0 ≤ (x13_2 : Int) := of_decide_eq_true zs
                       have q747 : x13_2 < (l1.length : Int) := of_decide_eq_true zs
                       obtain ⟨ad747, A747_1, c747_1, e747, hx747_0, hx747_1, hl747_1, hi747_1⟩ := at_T60 (Kd.V_reads' HO_1.out).2.2 x13_2 p747 q747
                       obtain rfl : ad741 = ad747 := (by injection e747)
                       obtain ⟨ce747, hce747, hMe747, hcc747⟩ := Kd.V_get HO_1.out z60 x13_2 p747 dWr3
                       obtain ⟨ua747_1, uc747_1, rfl, ul747_1, ge747_1⟩ := k60_openF hMe747
                       have hv747_1 := hcc747 1 _ rfl
                       rw [add_field _ _ 1 (by omega)] at hv747_1
                       replace hv747_1 := Option.some.inj (hv747_1.symm.trans hx747_1)
                       injection hv747_1 with hva_ hvn_ hvc_
                       rw [hva_] at ge747_1
                       rw [hvc_] at ul747_1
                       have HL747_1 := zh (show Kd.V (Kd.int .i64) 3 _ w.heap.size _ _ ((rd_T60 l1 x13_2).f1) from Kd.V_mk ul747_1 ge747_1)
                       clear hva_ hvn_ hvc_ ge747_1 ul747_1 hcc747 hce747
                       have HR747_1 := zh hi747_1
                       have HC747_1 := zh hl747_1
                       clear hi747_1 hl747_1
                       replace p747 := eq_true p747
                       replace q747 := eq_true q747
                       have p748 : 0 ≤ (x16_4 : Int) := of_decide_eq_true zs
                       have q748 : x16_4 < (((rd_T60 l1 x13_2).f1).length : Int) := of_decide_eq_true zs
                       obtain ⟨ad748, e748, hx748_0⟩ := Kd.at_int dWr1 x16_4 p748 q748
                       cases e748
                       replace p748 := eq_true p748
                       replace q748 := eq_true q748
                       have p749 : 0 ≤ (x16_4 : Int) := of_decide_eq_true zs
                       have q749 : x16_4 < (t742.length : Int) := of_decide_eq_true zs
                       obtain ⟨ad749, e749, hx749_0⟩ := Kd.at_int (Kd.V_reads' HO_14.out).2.2 x16_4 p749 q749
                       cases e749
                       replace p749 := eq_true p749
                       replace q749 := eq_true q749
                       refine start_ (n := 24) (S := fun w' => w'.cell? (ad741.add ((x13_2).toNat * 2)) = some (.int .i64 ((rd_T60 l1 x13_2).f0)) ∧ w'.cell? ⟨(ad741.add ((x13_2).toNat * 2)).block, (ad741.add ((x13_2).toNat * 2)).off + 1, none⟩ = some (.slice (some ad748) ((rd_T60 l1 x13_2).f1).length c747_1) ∧ w'.cell? (ad748.add (x16_4).toNat) = some (.int .i64 (rd ((rd_T60 l1 x13_2).f1) x16_4)) ∧ w'.cell? (ad749.add (x16_4).toNat) = some (.int .i64 (rd t742 x16_4))) (ds := []) (Array.replicate 24 false) zk rfl rfl ⟨hx747_0, hx747_1, hx748_0, hx749_0⟩ (fun hHeld => ?_); refine with_tabW saronlaw06_KernelWrongly.tab15 saronlaw06_KernelWrongly.bits15 (fun HT_ HW_ => ?_)
                       generalize wr.drew = w52 at HO_1 HO_11 HO_14 BK730 HR741_1 HB HL747_1 HR747_1 hx747_0 hx747_1 hx748_0 hx749_0 hHeld ⊢
                       refine zu 0 ?_
                       refine zu 1 ?_
                       refine zu 2 ?_
                       refine zu 3 ?_
                       refine zu 5 ?_
                       refine zu 8 ?_
                       refine zu 9 ?_
                       refine zu 10 ?_
                       refine zt 4 ?_
                       refine zu 6 ?_
                       refine zt 7 ?_
                       refine zt 11 ?_
                       refine zu 12 ?_
                       refine zu 13 ?_
                       refine zn 14 ?_
                       refine zn 15 ?_
                       refine zn 16 ?_
                       refine zn 17 ?_
                       refine zn 18 ?_
                       refine zn 19 ?_
                       refine zn 20 ?_
                       refine zn 21 ?_
                       refine zn 22 ?_
                       refine zu 23 ?_
                       refine zd ?_
                       try go_wp2
                       go_roundg k4
                       case measure => have := HJ5.out; have := HK2.out; have := HJ37.out; have := HK4.out; omega
                       case rel => exact ⟨(x12_4), (wrap64 (x16_4 + 1)), ze, ze, H', ⟨by have := HJ5.out; have := HK2.out; have := HJ37.out; have := HK4.out; omega⟩, ⟨zV HO_1⟩, ⟨zR HO_11⟩, ⟨zV HO_14⟩, ⟨zc BK730⟩, ⟨by repeat (first | (with_reducible exact HR741_1.out) | (with_reducible refine Kd.C_alloc ?_ _) | (with_reducible refine Kd.C_drewN ?_ _) | (with_reducible refine Kd.C_drew ?_) | exact HR741_1.out)⟩, ⟨zb⟩⟩
                      ·rw [if_neg c50] at H
                       have c50b0 : ((rd ((rd_T60 l1 x13_2).f1) x16_4) == (rd t742 x16_4)) = false := beq_eq_false_iff_ne.mpr c50
                       have c50b1 : ((rd ((rd_T60 l1 x13_2).f1) x16_4) != (rd t742 x16_4)) = true := bne_iff_ne.mpr c50
                       by_cases c53 : (rd ((rd_T60 l1 x13_2).f1) x16_4) = (-2)
                       ·rw [if_pos c53] at H
                        have c53b0 : ((rd ((rd_T60 l1 x13_2).f1) x16_4) == (-2)) = true := beq_iff_eq.mpr c53
                        have c53b1 : ((rd ((rd_T60 l1 x13_2).f1) x16_4) != (-2)) = false := bne_eq_false_iff_eq.mpr c53
                        clear c53
                        have H' := zh H
                        clear H
                        obtain ⟨Ao54, co54, eo54⟩ := Kd.V_slice HO_14.out
                        subst eo54
                        try go_wp2
                        replace HO_1 := zh (Kd.V_drew HO_1.out)
                        replace HO_11 := zh (Kd.R_drew HO_11.out)
                        replace HO_14 := zh (Kd.V_drew HO_14.out)
                        replace BK730 := zh (blk_drew BK730.out)
                        replace HR741_1 := zh (Kd.C_drew HR741_1.out)
                        replace HB := zh (below_drew1 HB.out)
                        have p747 : 0 ≤ (x13_2 : Int) := of_decide_eq_true zs
                        have q747 : x13_2 < (l1.length : Int) := of_decide_eq_true zs
                        obtain ⟨ad747, A747_1, c747_1, e747, hx747_0, hx747_1, hl747_1, hi747_1⟩ := at_T60 (Kd.V_reads' HO_1.out).2.2 x13_2 p747 q747
                        obtain rfl : ad741 = ad747 := (by injection e747)
                        obtain ⟨ce747, hce747, hMe747, hcc747⟩ := Kd.V_get HO_1.out z60 x13_2 p747 dWr3
                        obtain ⟨ua747_1, uc747_1, rfl, ul747_1, ge747_1⟩ := k60_openF hMe747
                        have hv747_1 := hcc747 1 _ rfl
                        rw [add_field _ _ 1 (by omega)] at hv747_1
                        replace hv747_1 := Option.some.inj (hv747_1.symm.trans hx747_1)
                        injection hv747_1 with hva_ hvn_ hvc_
                        rw [hva_] at ge747_1
                        rw [hvc_] at ul747_1
                        have HL747_1 := zh (show Kd.V (Kd.int .i64) 3 _ w.heap.size _ _ ((rd_T60 l1 x13_2).f1) from Kd.V_mk ul747_1 ge747_1)
                        clear hva_ hvn_ hvc_ ge747_1 ul747_1 hcc747 hce747
                        have HR747_1 := zh hi747_1
                        have HC747_1 := zh hl747_1
                        clear hi747_1 hl747_1
                        replace p747 := eq_true p747
                        replace q747 := eq_true q747
                        have p748 : 0 ≤ (x16_4 : Int) := of_decide_eq_true zs
                        have q748 : x16_4 < (((rd_T60 l1 x13_2).f1).length : Int) := of_decide_eq_true zs
                        obtain ⟨ad748, e748, hx748_0⟩ := Kd.at_int dWr1 x16_4 p748 q748
                        cases e748
                        replace p748 := eq_true p748
                        replace q748 := eq_true q748
                        have p749 : 0 ≤ (x16_4 : Int) := of_decide_eq_true zs
                        have q749 : x16_4 < (t742.length : Int) := of_decide_eq_true zs
                        obtain ⟨ad749, e749, hx749_0⟩ := Kd.at_int (Kd.V_reads' HO_14.out).2.2 x16_4 p749 q749
                        cases e749
                        replace p749 := eq_true p749
                        replace q749 := eq_true q749
                        have p750 : 0 ≤ (x13_2 : Int) := of_decide_eq_true zs
                        have q750 : x13_2 < (l1.length : Int) := of_decide_eq_true zs
                        obtain ⟨ad750, A750_1, c750_1, e750, hx750_0, hx750_1, hl750_1, hi750_1⟩ := at_T60 (Kd.V_reads' HO_1.out).2.2 x13_2 p750 q750
                        obtain rfl : ad741 = ad750 := (by injection e750)
                        obtain ⟨ce750, hce750, hMe750, hcc750⟩ := Kd.V_get HO_1.out z60 x13_2 p750 (by first | exact q750 | exact of_decide_eq_true zs | (have e_ := (Kd.V_reads' HO_1.out).1; omega))
                        obtain ⟨ua750_1, uc750_1, rfl, ul750_1, ge750_1⟩ := k60_openF hMe750
                        have hv750_1 := hcc750 1 _ rfl
                        rw [add_field _ _ 1 (by omega)] at hv750_1
                        replace hv750_1 := Option.some.inj (hv750_1.symm.trans hx750_1)
                        injection hv750_1 with hva_ hvn_ hvc_
                        rw [hva_] at ge750_1
                        rw [hvc_] at ul750_1
                        have HL750_1 := zh (show Kd.V (Kd.int .i64) 3 _ w.heap.size _ _ ((rd_T60 l1 x13_2).f1) from Kd.V_mk ul750_1 ge750_1)
                        clear hva_ hvn_ hvc_ ge750_1 ul750_1 hcc750 hce750
                        have HR750_1 := zh hi750_1
                        have HC750_1 := zh hl750_1
                        clear hi750_1 hl750_1
                        replace p750 := eq_true p750
                        replace q750 := eq_true q750
                        have ea_ := Option.some.inj (hx747_1.symm.trans hx750_1)
                        injection ea_ with ea_ en_ ec_
                        subst ea_
                        subst ec_
                        clear en_
                        have p751 : 0 ≤ (x16_4 : Int) := of_decide_eq_true zs
                        have q751 : x16_4 < (((rd_T60 l1 x13_2).f1).length : Int) := of_decide_eq_true zs
                        obtain ⟨ad751, e751, hx751_0⟩ := Kd.at_int (by repeat (first | (with_reducible exact HR750_1.out) | (with_reducible refine Kd.C_alloc ?_ _) | (with_reducible refine Kd.C_drewN ?_ _) | (with_reducible refine Kd.C_drew ?_) | exact HR750_1.out)) x16_4 p751 q751
                        cases e751
                        replace p751 := eq_true p751
                        replace q751 := eq_true q751
                        refine start_ (n := 24) (S := fun w' => w'.cell? (ad741.add ((x13_2).toNat * 2)) = some (.int .i64 ((rd_T60 l1 x13_2).f0)) ∧ w'.cell? ⟨(ad741.add ((x13_2).toNat * 2)).block, (ad741.add ((x13_2).toNat * 2)).off + 1, none⟩ = some (.slice (some ad748) ((rd_T60 l1 x13_2).f1).length c747_1) ∧ w'.cell? (ad748.add (x16_4).toNat) = some (.int .i64 (rd ((rd_T60 l1 x13_2).f1) x16_4)) ∧ w'.cell? (ad749.add (x16_4).toNat) = some (.int .i64 (rd t742 x16_4)) ∧ w'.cell? (ad741.add ((x13_2).toNat * 2)) = some (.int .i64 ((rd_T60 l1 x13_2).f0)) ∧ w'.cell? ⟨(ad741.add ((x13_2).toNat * 2)).block, (ad741.add ((x13_2).toNat * 2)).off + 1, none⟩ = some (.slice (some ad748) ((rd_T60 l1 x13_2).f1).length c747_1) ∧ w'.cell? (ad748.add (x16_4).toNat) = some (.int .i64 (rd ((rd_T60 l1 x13_2).f1) x16_4))) (ds := []) (Array.replicate 24 false) zk rfl rfl ⟨hx747_0, hx747_1, hx748_0, hx749_0, hx750_0, hx750_1, hx751_0⟩ (fun hHeld => ?_); refine with_tabW saronlaw06_KernelWrongly.tab15 saronlaw06_KernelWrongly.bits15 (fun HT_ HW_ => ?_)
                        generalize wr.drew = w55 at HO_1 HO_11 HO_14 BK730 HR741_1 HB HL747_1 HL750_1 HR747_1 HR750_1 hx747_0 hx747_1 hx748_0 hx749_0 hx750_0 hx750_1 hx751_0 hHeld ⊢
                        refine zu 0 ?_
                        refine zu 1 ?_
                        refine zu 2 ?_
                        refine zu 3 ?_
                        refine zu 5 ?_
                        refine zu 8 ?_
                        refine zu 9 ?_
                        refine zu 10 ?_
                        refine zt 4 ?_
                        refine zu 6 ?_
                        refine zt 7 ?_
                        refine zt 11 ?_
                        refine zu 12 ?_
                        refine zu 13 ?_
                        refine zu 14 ?_
                        refine zu 15 ?_
                        refine zu 16 ?_
                        refine zu 17 ?_
                        refine zu 19 ?_
                        refine zt 18 ?_
                        refine zu 20 ?_
                        refine zt 21 ?_
                        refine zu 22 ?_
                        refine zu 23 ?_
                        refine zd ?_
                        try go_wp2
                        go_roundg k4
                        case measure => have := HJ5.out; have := HK2.out; have := HJ37.out; have := HK4.out; omega
                        case rel => exact ⟨(x12_4), (wrap64 (x16_4 + 1)), ze, ze, H', ⟨by have := HJ5.out; have := HK2.out; have := HJ37.out; have := HK4.out; omega⟩, ⟨zV HO_1⟩, ⟨zR HO_11⟩, ⟨zV HO_14⟩, ⟨zc BK730⟩, ⟨by repeat (first | (with_reducible exact HR741_1.out) | (with_reducible refine Kd.C_alloc ?_ _) | (with_reducible refine Kd.C_drewN ?_ _) | (with_reducible refine Kd.C_drew ?_) | exact HR741_1.out)⟩, ⟨zb⟩⟩
                       ·rw [if_neg c53] at H
                        have c53b0 : ((rd ((rd_T60 l1 x13_2).f1) x16_4) == (-2)) = false := beq_eq_false_iff_ne.mpr c53
                        have c53b1 : ((rd ((rd_T60 l1 x13_2).f1) x16_4) != (-2)) = true := bne_iff_ne.mpr c53
                        have H' := zh H
                        clear H
                        obtain ⟨Ao56, co56, eo56⟩ := Kd.V_slice HO_14.out
                        subst eo56
                        try go_wp2
                        replace HO_1 := zh (Kd.V_drew HO_1.out)
                        replace HO_11 := zh (Kd.R_drew HO_11.out)
                        replace HO_14 := zh (Kd.V_drew HO_14.out)
                        replace BK730 := zh (blk_drew BK730.out)
                        replace HR741_1 := zh (Kd.C_drew HR741_1.out)
                        replace HB := zh (below_drew1 HB.out)
                        have p747 : 0 ≤ (x13_2 : Int) := of_decide_eq_true zs
                        have q747 : x13_2 < (l1.length : Int) := of_decide_eq_true zs
                        obtain ⟨ad747, A747_1, c747_1, e747, hx747_0, hx747_1, hl747_1, hi747_1⟩ := at_T60 (Kd.V_reads' HO_1.out).2.2 x13_2 p747 q747
                        obtain rfl : ad741 = ad747 := (by injection e747)
                        obtain ⟨ce747, hce747, hMe747, hcc747⟩ := Kd.V_get HO_1.out z60 x13_2 p747 dWr3
                        obtain ⟨ua747_1, uc747_1, rfl, ul747_1, ge747_1⟩ := k60_openF hMe747
                        have hv747_1 := hcc747 1 _ rfl
                        rw [add_field _ _ 1 (by omega)] at hv747_1
                        replace hv747_1 := Option.some.inj (hv747_1.symm.trans hx747_1)
                        injection hv747_1 with hva_ hvn_ hvc_
                        rw [hva_] at ge747_1
                        rw [hvc_] at ul747_1
                        have HL747_1 := zh (show Kd.V (Kd.int .i64) 3 _ w.heap.size _ _ ((rd_T60 l1 x13_2).f1) from Kd.V_mk ul747_1 ge747_1)
                        clear hva_ hvn_ hvc_ ge747_1 ul747_1 hcc747 hce747
                        have HR747_1 := zh hi747_1
                        have HC747_1 := zh hl747_1
                        clear hi747_1 hl747_1
                        replace p747 := eq_true p747
                        replace q747 := eq_true q747
                        have p748 : 0 ≤ (x16_4 : Int) := of_decide_eq_true zs
                        have q748 : x16_4 < (((rd_T60 l1 x13_2).f1).length : Int) := of_decide_eq_true zs
                        obtain ⟨ad748, e748, hx748_0⟩ := Kd.at_int dWr1 x16_4 p748 q748
                        cases e748
                        replace p748 := eq_true p748
                        replace q748 := eq_true q748
                        have p749 : 0 ≤ (x16_4 : Int) := of_decide_eq_true zs
                        have q749 : x16_4 < (t742.length : Int) := of_decide_eq_true zs
                        obtain ⟨ad749, e749, hx749_0⟩ := Kd.at_int (Kd.V_reads' HO_14.out).2.2 x16_4 p749 q749
                        cases e749
                        replace p749 := eq_true p749
                        replace q749 := eq_true q749
                        have p750 : 0 ≤ (x13_2 : Int) := of_decide_eq_true zs
                        have q750 : x13_2 < (l1.length : Int) := of_decide_eq_true zs
                        obtain ⟨ad750, A750_1, c750_1, e750, hx750_0, hx750_1, hl750_1, hi750_1⟩ := at_T60 (Kd.V_reads' HO_1.out).2.2 x13_2 p750 q750
                        obtain rfl : ad741 = ad750 := (by injection e750)
                        obtain ⟨ce750, hce750, hMe750, hcc750⟩ := Kd.V_get HO_1.out z60 x13_2 p750 (by first | exact q750 | exact of_decide_eq_true zs | (have e_ := (Kd.V_reads' HO_1.out).1; omega))
                        obtain ⟨ua750_1, uc750_1, rfl, ul750_1, ge750_1⟩ := k60_openF hMe750
                        have hv750_1 := hcc750 1 _ rfl
                        rw [add_field _ _ 1 (by omega)] at hv750_1
                        replace hv750_1 := Option.some.inj (hv750_1.symm.trans hx750_1)
                        injection hv750_1 with hva_ hvn_ hvc_
                        rw [hva_] at ge750_1
                        rw [hvc_] at ul750_1
                        have HL750_1 := zh (show Kd.V (Kd.int .i64) 3 _ w.heap.size _ _ ((rd_T60 l1 x13_2).f1) from Kd.V_mk ul750_1 ge750_1)
                        clear hva_ hvn_ hvc_ ge750_1 ul750_1 hcc750 hce750
                        have HR750_1 := zh hi750_1
                        have HC750_1 := zh hl750_1
                        clear hi750_1 hl750_1
                        replace p750 := eq_true p750
                        replace q750 := eq_true q750
                        have ea_ := Option.some.inj (hx747_1.symm.trans hx750_1)
                        injection ea_ with ea_ en_ ec_
                        subst ea_
                        subst ec_
                        clear en_
                        have p751 : 0 ≤ (x16_4 : Int) := of_decide_eq_true zs
                        have q751 : x16_4 < (((rd_T60 l1 x13_2).f1).length : Int) := of_decide_eq_true zs
                        obtain ⟨ad751, e751, hx751_0⟩ := Kd.at_int (by repeat (first | (with_reducible exact HR750_1.out) | (with_reducible refine Kd.C_alloc ?_ _) | (with_reducible refine Kd.C_drewN ?_ _) | (with_reducible refine Kd.C_drew ?_) | exact HR750_1.out)) x16_4 p751 q751
                        cases e751
                        replace p751 := eq_true p751
                        replace q751 := eq_true q751
                        refine start_ (n := 24) (S := fun w' => w'.cell? (ad741.add ((x13_2).toNat * 2)) = some (.int .i64 ((rd_T60 l1 x13_2).f0)) ∧ w'.cell? ⟨(ad741.add ((x13_2).toNat * 2)).block, (ad741.add ((x13_2).toNat * 2)).off + 1, none⟩ = some (.slice (some ad748) ((rd_T60 l1 x13_2).f1).length c747_1) ∧ w'.cell? (ad748.add (x16_4).toNat) = some (.int .i64 (rd ((rd_T60 l1 x13_2).f1) x16_4)) ∧ w'.cell? (ad749.add (x16_4).toNat) = some (.int .i64 (rd t742 x16_4)) ∧ w'.cell? (ad741.add ((x13_2).toNat * 2)) = some (.int .i64 ((rd_T60 l1 x13_2).f0)) ∧ w'.cell? ⟨(ad741.add ((x13_2).toNat * 2)).block, (ad741.add ((x13_2).toNat * 2)).off + 1, none⟩ = some (.slice (some ad748) ((rd_T60 l1 x13_2).f1).length c747_1) ∧ w'.cell? (ad748.add (x16_4).toNat) = some (.int .i64 (rd ((rd_T60 l1 x13_2).f1) x16_4))) (ds := []) (Array.replicate 24 false) zk rfl rfl ⟨hx747_0, hx747_1, hx748_0, hx749_0, hx750_0, hx750_1, hx751_0⟩ (fun hHeld => ?_); refine with_tabW saronlaw06_KernelWrongly.tab15 saronlaw06_KernelWrongly.bits15 (fun HT_ HW_ => ?_)
                        generalize wr.drew = w57 at HO_1 HO_11 HO_14 BK730 HR741_1 HB HL747_1 HL750_1 HR747_1 HR750_1 hx747_0 hx747_1 hx748_0 hx749_0 hx750_0 hx750_1 hx751_0 hHeld ⊢
                        refine zu 0 ?_
                        refine zu 1 ?_
                        refine zu 2 ?_
                        refine zu 3 ?_
                        refine zu 5 ?_
                        refine zu 8 ?_
                        refine zu 9 ?_
                        refine zu 10 ?_
                        refine zt 4 ?_
                        refine zu 6 ?_
                        refine zt 7 ?_
                        refine zt 11 ?_
                        refine zu 12 ?_
                        refine zu 13 ?_
                        refine zu 14 ?_
                        refine zu 15 ?_
                        refine zu 16 ?_
                        refine zu 17 ?_
                        refine zu 19 ?_
                        refine zt 18 ?_
                        refine zu 20 ?_
                        refine zt 21 ?_
                        refine zu 22 ?_
                        refine zu 23 ?_
                        refine zd ?_
                        try go_wp2
                        go_roundg k4
                        case measure => have := HJ5.out; have := HK2.out; have := HJ37.out; have := HK4.out; omega
                        case rel => exact ⟨(wrap64 (x12_4 + 1)), (wrap64 (x16_4 + 1)), ze, ze, H', ⟨by have := HJ5.out; have := HK2.out; have := HJ37.out; have := HK4.out; omega⟩, ⟨zV HO_1⟩, ⟨zR HO_11⟩, ⟨zV HO_14⟩, ⟨zc BK730⟩, ⟨by repeat (first | (with_reducible exact HR741_1.out) | (with_reducible refine Kd.C_alloc ?_ _) | (with_reducible refine Kd.C_drewN ?_ _) | (with_reducible refine Kd.C_drew ?_) | exact HR741_1.out)⟩, ⟨zb⟩⟩
                     ·rw [if_neg c49] at H
                      exact absurd H (by simp)
                    ·rw [if_neg c48] at H
                     exact absurd H (by simp)
                   ·rw [if_neg c47] at H
                    exact absurd H (by simp)
                  ·rw [if_neg c46] at H
                   exact absurd H (by simp)
                 ·rw [if_neg c45] at H
                  have c45b0 : decide (x16_4 < (t742.length : Int)) = false := decide_eq_false c45
                  clear c45
                  have H' := zh H
                  clear H
                  obtain ⟨Ao58, co58, eo58⟩ := Kd.V_slice HO_14.out
                  subst eo58
                  go_wp2
                  go_roundg k4
                  case measure => have := HJ5.out; have := HK2.out; have := HJ37.out; have := HK4.out; omega
                  case rel => exact ⟨(x12_4), (wrap64 (x13_2 + 1)), ze, ze, H', ⟨by have := HJ5.out; have := HK2.out; have := HJ37.out; have := HK4.out; omega⟩, ⟨zV HO_1⟩, ⟨zR HO_11⟩, ⟨zc BK730⟩, ⟨zb⟩⟩
         ·rw [if_neg c36] at H
          exact absurd H (by simp)
        ·rw [if_neg c35] at H
         have c35b0 : decide (x13_2 < (l1.length : Int)) = false := decide_eq_false c35
         clear c35
         have HC59 := zh H
         clear H
         go_upto_region 17 with (fail)
         go_cut [156] (fun v156 wc => ∃ (kq : Nat) (x156_58 : Bool), v156 = .bool x156_58 ∧ Aside0 (saronlaw06_KernelWrongly.j4 kq l1 l2 t731 x156_58 a0_0 a0_1 a0_2 l0_3 = some r) ∧ Aside0 (kq ≤ k2) ∧ Aside0 (Kd.V k60 60 wc w.heap.size (fun k_ => (P1_ k_ ∨ w.heap.size ≤ k_) ∧ k_ ≠ gb730) (.slice A1 l1.length c1) l1) ∧ Aside0 (wc.heap[gb730]? = some (.cells #[.int .i64 a0_0, .int .i64 a0_1, .int .i64 a0_2, (.slice A0_3 l0_3.length c0_3)] 24 (0, 0))) ∧ Aside0 (Below w.heap.size w wc))
         case first =>
          have H := HC59.out
          clear HC59
          by_cases c60 : t731 < 0
          ·rw [if_pos c60] at H
           have c60b0 : decide (t731 < 0) = true := decide_eq_true c60
           clear c60
           (first | rw [c60b0] | (simp only [i64_w, i32_w]; rw [c60b0]) | skip)
           have H' := zh H
           clear H
           go_wp2
           go_meet
           case rel => exact ⟨_, (true), ze, H', ⟨by have := HJ5.out; have := HK2.out; first | omega | exact Nat.le_refl _⟩, ⟨by (with_reducible repeat (first | apply Kd.V_alloc | apply Kd.V_drewN | apply Kd.V_drew)); exact Kd.V_mono HO_1.out (fun _ hk => ⟨hk.1, hk.2.2⟩)⟩, ⟨zc BK730⟩, ⟨zb⟩⟩
          ·rw [if_neg c60] at H
           have c60b0 : decide (t731 < 0) = false := decide_eq_false c60
           clear c60
           (first | rw [c60b0] | (simp only [i64_w, i32_w]; rw [c60b0]) | skip)
           by_cases c61 : x12_2 < t731
           ·rw [if_pos c61] at H
            have c61b0 : decide (x12_2 < t731) = true := decide_eq_true c61
            clear c61
            have H' := zh H
            clear H
            go_wp2
            go_meet
            case rel => exact ⟨_, (true), ze, H', ⟨by have := HJ5.out; have := HK2.out; first | omega | exact Nat.le_refl _⟩, ⟨by (with_reducible repeat (first | apply Kd.V_alloc | apply Kd.V_drewN | apply Kd.V_drew)); exact Kd.V_mono HO_1.out (fun _ hk => ⟨hk.1, hk.2.2⟩)⟩, ⟨zc BK730⟩, ⟨zb⟩⟩
           ·rw [if_neg c61] at H
            have c61b0 : decide (x12_2 < t731) = false := decide_eq_false c61
            clear c61
            have H' := zh H
            clear H
            go_wp2
            go_meet
            case rel => exact ⟨_, (((decide (t733 > 0)) != (t731 == 0))), ze, H', ⟨by have := HJ5.out; have := HK2.out; first | omega | exact Nat.le_refl _⟩, ⟨by (with_reducible repeat (first | apply Kd.V_alloc | apply Kd.V_drewN | apply Kd.V_drew)); exact Kd.V_mono HO_1.out (fun _ hk => ⟨hk.1, hk.2.2⟩)⟩, ⟨zc BK730⟩, ⟨zb⟩⟩
         case rest =>
          as_aux_lemma =>
           clear HC59
           try clear c1
           try clear p2
           try clear c3
           try clear c4
           try clear c5
           try clear c6
           try clear p6
           try clear c7
           try clear p7
           try clear q7
           try clear hx7
           try clear c35
           try clear c35b0
           try clear c36
           try clear c45
           try clear c45b0
           try clear c46
           try clear c47
           try clear c48
           try clear c49
           try clear c53
           try clear c53b0
           try clear c53b1
           try clear c60
           try clear c60b0
           try clear c61
           try clear c61b0
           try clear hx747_0
           try clear hx747_1
           try clear hx748_0
           try clear hx749_0
           try clear hx750_0
           try clear hx750_1
           try clear hx751_0
           try clear p747
           try clear p748
           try clear p749
           try clear p750
           try clear p751
           try clear q747
           try clear q748
           try clear q749
           try clear q750
           try clear q751
           obtain ⟨kq, x156_58, rfl, HA, HJ58, HO_1, BK730, HB⟩ := hcut
           cases kq with
           | zero => exact absurd HA.out (by simp [saronlaw06_KernelWrongly.j4])
           | succ kj58 =>
            have H := HA.out
            clear HA
            simp only [saronlaw06_KernelWrongly.j4] at H
            by_cases c62 : x156_58 = true
            ·subst c62
             have H1 : (some false) = some r := by rw [if_pos rfl] at H; exact H
             clear H
             have H := H1
             clear H1
             exact absurd ((Option.some.inj H).trans HRT.out) (by decide)
            ·replace c62 := Bool.eq_false_iff.mpr c62
             subst c62
             have H1 : ((some (([] : List (S60)) : List (S60))).bind fun y752 => (if y752.length + l1.length < 4398046511104 then (saronlaw06_KernelWrongly.l2 kj58 l1 l2 t731 (y752 ++ l1) 0 a0_0 a0_1 a0_2 l0_3) else (none))) = some r := by rw [if_neg (show ¬ (false = true) by decide)] at H; exact H
             clear H
             have H := H1
             clear H1
             obtain ⟨y752, hy752⟩ : ∃ y_ : List (S60), y_ = (([] : List (S60))) := ⟨_, rfl⟩
             replace H : (if y752.length + l1.length < 4398046511104 then (saronlaw06_KernelWrongly.l2 kj58 l1 l2 t731 (y752 ++ l1) 0 a0_0 a0_1 a0_2 l0_3) else (none)) = some r := by first | (rw [hy752]; with_reducible exact H) | (have H2_ := (Option.bind_some _ _).symm.trans H; rw [hy752]; with_reducible exact H2_) | (have H2_ := (Option.bind_some _ _).symm.trans H; with_reducible exact H2_) | with_reducible exact H | (rw [hy752]; exact H) | exact H
             have Ny752 := zh hy752
             clear hy752
             by_cases c63 : y752.length + l1.length < 4398046511104
             ·rw [if_pos c63] at H
              have LMc63 := zh c63
              clear c63
              obtain ⟨y755, hy755⟩ : ∃ y_ : List (S60), y_ = (y752 ++ l1) := ⟨_, rfl⟩
              replace H : (saronlaw06_KernelWrongly.l2 kj58 l1 l2 t731 y755 0 a0_0 a0_1 a0_2 l0_3) = some r := by first | (rw [hy755]; with_reducible exact H) | (have H2_ := (Option.bind_some _ _).symm.trans H; rw [hy755]; with_reducible exact H2_) | (have H2_ := (Option.bind_some _ _).symm.trans H; with_reducible exact H2_) | with_reducible exact H | (rw [hy755]; exact H) | exact H
              have Ny755 := zh hy755
              clear hy755
              have H' := zh H
              clear H
              go_wp2_with (first | ((with_reducible refine gate_dst (N := 157) rfl ?_); (try (refine gate_guard (by rfl) ?_; dsimp only)); refine Kd.N_lit k60 _ 60 ?hg (N' := 157) ?hd (xs := ([] : List (S60))) (inner := []) (ok := (fun k_ => (P1_ k_ ∨ w.heap.size ≤ k_) ∧ k_ ≠ gb730)) (okp := (fun k_ => (P1_ k_ ∨ w.heap.size ≤ k_) ∧ k_ ≠ gb730)) ?hr ?hp (fun _ hk => hk) ((show ∀ k_, wc.heap.size ≤ k_ → (fun k_ => (P1_ k_ ∨ w.heap.size ≤ k_) ∧ k_ ≠ gb730) k_ from fun k_ hk => ⟨(.inr (Nat.le_trans (below_size zb) hk)), Kd.freshB (g := gb730) (o := .cells #[.int .i64 a0_0, .int .i64 a0_1, .int .i64 a0_2, .slice A0_3 l0_3.length c0_3] 24 (0, 0)) (zc BK730) k_ hk⟩) _ (Nat.le_refl _)) (Below.refl _ _) (Nat.le_refl _) (by simp) ?_; (case hd => rfl); (case hg => rfl); (case hr => first | (go_simp; done) | (go_simp; rfl)); (case hp => exact (Reps.none _ _)); intro v753 w64 ho65 hb hg_ hnew_; clear hg_ hnew_; (first | rw [← Ny752.out] at ho65 | (simp only [Int.reduceToNat] at ho65; rw [← Ny752.out] at ho65)); have n0_ := zh (Kd.V_elder' (zV HO_1) (Kd.N_base ho65) hb); have n1_ := zh (Kd.N_lower ho65 (below_size zb)); have n2_ := zh (blk_below (g := gb730) (o := .cells #[.int .i64 a0_0, .int .i64 a0_1, .int .i64 a0_2, .slice A0_3 l0_3.length c0_3] 24 (0, 0)) (zc BK730) hb); have n3_ := zh (below_step zb hb); clear HO_1; clear BK730; clear HB; have HO_1 := n0_; have HO754 := n1_; have BK730 := n2_; have HB := n3_; clear n0_ n1_ n2_ n3_; clear hb ho65) | ((with_reducible refine gate_builtin (b := .append) (xs := #[.tmp 157, .tmp 158]) rfl ?_); (try (refine gate_guard (by rfl) ?_; dsimp only)); at_builtin; refine Kd.N_append_rows k60 (w0 := w) w.heap.size rfl (.tmp 157) (.tmp 158) 33 60 (.agg #[(.int .i64 0), (.slice none 0 0)]) 32 rfl Tryd.underlying33 info60 rfl (by decide) (by omega) v753 y752 l1 _ _ _ (fun k_ => (P1_ k_ ∨ w.heap.size ≤ k_) ∧ k_ ≠ gb730) (fun k_ => ((fun k_ => (P1_ k_ ∨ w.heap.size ≤ k_) ∧ k_ ≠ gb730)) k_ ∧ some k_ ≠ (v753 : Value).ownBlock) rfl rfl ?aO ?aR (fun _ hk => hk) ?aF ?aB ?aS ?aL ?_; (case aR => exact (by skip; exact Kd.V_F (Kd.V_mono (ok' := (fun k_ => ((fun k_ => (P1_ k_ ∨ w.heap.size ≤ k_) ∧ k_ ≠ gb730)) k_ ∧ some k_ ≠ (v753 : Value).ownBlock)) (HO_1.out) (fun k_ hk => ⟨⟨hk.1.1, hk.1.2⟩, hk.2⟩)))); (case aB => exact zb); (case aF => exact (fun k_ hk => ⟨(.inr (Nat.le_trans (below_size zb) hk)), Kd.freshB (g := gb730) (o := .cells #[.int .i64 a0_0, .int .i64 a0_1, .int .i64 a0_2, .slice A0_3 l0_3.length c0_3] 24 (0, 0)) (zc BK730) k_ hk⟩)); (case aO => exact (zN HO754)); (case aS => exact (below_size zb)); (case aL => have := LMc63.out; omega); intro v756 w66 ho hb hg hat; rw [← Ny755.out] at ho; have n0_ := zh (Kd.V_afterv (ok := (fun k_ => (P1_ k_ ∨ w.heap.size ≤ k_) ∧ k_ ≠ gb730)) (zV HO_1) hg hat); have n1_ := zh (blk_grown (g := gb730) (o := .cells #[.int .i64 a0_0, .int .i64 a0_1, .int .i64 a0_2, .slice A0_3 l0_3.length c0_3] 24 (0, 0)) (zc BK730) hg (Kd.N_ne HO754.out BK730.out (by decide))); have n2_ := zh (hb); have n3_ := zh (ho); clear HO_1; clear BK730; clear HB; clear HO754; have HO_1 := n0_; have BK730 := n1_; have HB := n2_; have HO757 := n3_; clear n0_ n1_ n2_ n3_; clear ho hb hg hat))
              go_loopg [18] kj58 (fun kq v18 w' => ∃ (x17_4 : List (S60)) (x18_4 : Int), v18 = .int .i64 x18_4 ∧ Aside0 (saronlaw06_KernelWrongly.l2 kq l1 l2 t731 x17_4 x18_4 a0_0 a0_1 a0_2 l0_3 = some r) ∧ Aside0 (kq ≤ kj58) ∧ Aside0 (Kd.V k60 60 w' w.heap.size (fun k_ => (P1_ k_ ∨ w.heap.size ≤ k_) ∧ some k_ ≠ (v756 : Value).ownBlock ∧ k_ ≠ gb730) (.slice A1 l1.length c1) l1) ∧ Aside0 (Kd.N k60 60 w' w.heap.size (fun k_ => (P1_ k_ ∨ w.heap.size ≤ k_) ∧ k_ ≠ gb730) v756 x17_4) ∧ Aside0 (w'.heap[gb730]? = some (.cells #[.int .i64 a0_0, .int .i64 a0_1, .int .i64 a0_2, (.slice A0_3 l0_3.length c0_3)] 24 (0, 0))) ∧ Aside0 (Below w.heap.size w w'))
              case atStart => exact ⟨(y755), (0), ze, H', ⟨Nat.le_refl _⟩, ⟨by (with_reducible repeat (first | apply Kd.V_alloc | apply Kd.V_drewN | apply Kd.V_drew)); exact Kd.V_mono HO_1.out (fun _ hk => ⟨hk.1.1, ⟨hk.2, hk.1.2⟩⟩)⟩, ⟨zN HO757⟩, ⟨zc BK730⟩, ⟨zb⟩⟩
              case round =>
               as_aux_lemma =>
                clear H'
                try clear c1
                try clear p2
                try clear c3
                try clear c4
                try clear c5
                try clear c6
                try clear p6
                try clear c7
                try clear p7
                try clear q7
                try clear hx7
                try clear c35
                try clear c35b0
                try clear c36
                try clear c45
                try clear c45b0
                try clear c46
                try clear c47
                try clear c48
                try clear c49
                try clear c53
                try clear c53b0
                try clear c53b1
                try clear c60
                try clear c60b0
                try clear c61
                try clear c61b0
                try clear c62
                try clear c63
                try clear p64
                try clear hx747_0
                try clear hx747_1
                try clear hx748_0
                try clear hx749_0
                try clear hx750_0
                try clear hx750_1
                try clear hx751_0
                try clear p2
                try clear p6
                try clear p7
                try clear p747
                try clear p748
                try clear p749
                try clear p750
                try clear p751
                try clear q7
                try clear q747
                try clear q748
                try clear q749
                try clear q750
                try clear q751
                obtain ⟨x17_4, x18_4, rfl, HA, HK4, HO_1, HO_17, BK730, HB⟩ := hrel
                cases gk with
                | zero => exact absurd HA.out (by simp [saronlaw06_KernelWrongly.l2])
                | succ k4 =>
                 have H := HA.out
                 clear HA
                 simp only [saronlaw06_KernelWrongly.l2] at H
                 have HC67 := zh H
                 clear H
                 go_upto_region 21 with (fail)
                 go_cut [167] (fun v167 wc => ∃ (kq : Nat) (x167_66 : Bool), v167 = .bool x167_66 ∧ Aside0 (saronlaw06_KernelWrongly.j6 kq l1 l2 t731 x17_4 x18_4 x167_66 a0_0 a0_1 a0_2 l0_3 = some r) ∧ Aside0 (kq ≤ k4) ∧ Aside0 (Kd.V k60 60 wc w.heap.size (fun k_ => (P1_ k_ ∨ w.heap.size ≤ k_) ∧ some k_ ≠ (v756 : Value).ownBlock ∧ k_ ≠ gb730) (.slice A1 l1.length c1) l1) ∧ Aside0 (Kd.N k60 60 wc w.heap.size (fun k_ => (P1_ k_ ∨ w.heap.size ≤ k_) ∧ k_ ≠ gb730) v756 x17_4) ∧ Aside0 (wc.heap[gb730]? = some (.cells #[.int .i64 a0_0, .int .i64 a0_1, .int .i64 a0_2, (.slice A0_3 l0_3.length c0_3)] 24 (0, 0))) ∧ Aside0 (Below w.heap.size w wc))
                 case first =>
                  have H := HC67.out
                  clear HC67
                  by_cases c68 : (wrap64 (x18_4 + 1)) < t731
                  ·rw [if_pos c68] at H
                   have c68b0 : decide ((wrap64 (x18_4 + 1)) < t731) = true := decide_eq_true c68
                   clear c68
                   (first | rw [c68b0] | (simp only [i64_w, i32_w]; rw [c68b0]) | skip)
                   have H' := zh H
                   clear H
                   go_wp2
                   go_meet
                   case rel => exact ⟨_, (decide (x18_4 < 12)), ze, H', ⟨by have := HJ5.out; have := HK2.out; have := HJ58.out; have := HK4.out; first | omega | exact Nat.le_refl _⟩, ⟨zV HO_1⟩, ⟨zN HO_17⟩, ⟨zc BK730⟩, ⟨zb⟩⟩
                  ·rw [if_neg c68] at H
                   have c68b0 : decide ((wrap64 (x18_4 + 1)) < t731) = false := decide_eq_false c68
                   clear c68
                   (first | rw [c68b0] | (simp only [i64_w, i32_w]; rw [c68b0]) | skip)
                   have H' := zh H
                   clear H
                   go_wp2
                   go_meet
                   case rel => exact ⟨_, (false), ze, H', ⟨by have := HJ5.out; have := HK2.out; have := HJ58.out; have := HK4.out; first | omega | exact Nat.le_refl _⟩, ⟨zV HO_1⟩, ⟨zN HO_17⟩, ⟨zc BK730⟩, ⟨zb⟩⟩
                 case rest =>
                  as_aux_lemma =>
                   clear HC67
                   try clear c1
                   try clear p2
                   try clear c3
                   try clear c4
                   try clear c5
                   try clear c6
                   try clear p6
                   try clear c7
                   try clear p7
                   try clear q7
                   try clear hx7
                   try clear c35
                   try clear c35b0
                   try clear c36
                   try clear c45
                   try clear c45b0
                   try clear c46
                   try clear c47
                   try clear c48
                   try clear c49
                   try clear c53
                   try clear c53b0
                   try clear c53b1
                   try clear c60
                   try clear c60b0
                   try clear c61
                   try clear c61b0
                   try clear c62
                   try clear c63
                   try clear p64
                   try clear c68
                   try clear c68b0
                   try clear hx747_0
                   try clear hx747_1
                   try clear hx748_0
                   try clear hx749_0
                   try clear hx750_0
                   try clear hx750_1
                   try clear hx751_0
                   try clear p2
                   try clear p6
                   try clear p64
                   try clear p7
                   try clear p747
                   try clear p748
                   try clear p749
                   try clear p750
                   try clear p751
                   try clear q7
                   try clear q747
                   try clear q748
                   try clear q749
                   try clear q750
                   try clear q751
                   obtain ⟨kq, x167_66, rfl, HA, HJ66, HO_1, HO_17, BK730, HB⟩ := hcut
                   cases kq with
                   | zero => exact absurd HA.out (by simp [saronlaw06_KernelWrongly.j6])
                   | succ kj66 =>
                    have H := HA.out
                    clear HA
                    simp only [saronlaw06_KernelWrongly.j6] at H
                    by_cases c69 : x167_66 = true
                    ·subst c69
                     have H1 : ((saronref00_Nth.f l2 x18_4).bind fun t758 => ((saronref00_Turn.f t758 (x17_4.length : Int)).bind fun t759 => ((some (([] : List Int) : List Int)).bind fun y760 => (if 0 ≤ t759 then (if t759 < (x17_4.length : Int) then (if y760.length + ((rd_T60 x17_4 t759).f1).length < 17592186044416 then ((some (y760 ++ ((rd_T60 x17_4 t759).f1) : List Int)).bind fun y764 => (if (y764.length : Int) > 0 then ((saronref00_Nth.f l2 (wrap64 (x18_4 + 1))).bind fun t767 => ((saronref00_Turn.f t767 (y764.length : Int)).bind fun t768 => (if 0 ≤ t768 then (if t768 < (y764.length : Int) then ((saronlaw06_of.f ((rd_T60 x17_4 t759).f0) (y764.set (t768 : Int).toNat (-2))).bind fun bt771 => (saronlaw06_KernelWrongly.l2 kj66 l1 l2 t731 (x17_4.set (t759 : Int).toNat (⟨bt771.1, bt771.2⟩ : S60)) (wrap64 (x18_4 + 1)) a0_0 a0_1 a0_2 l0_3)) else (none)) else (none)))) else ((saronlaw06_of.f ((rd_T60 x17_4 t759).f0) y764).bind fun bt777 => (saronlaw06_KernelWrongly.l2 kj66 l1 l2 t731 (x17_4.set (t759 : Int).toNat (⟨bt777.1, bt777.2⟩ : S60)) (wrap64 (x18_4 + 1)) a0_0 a0_1 a0_2 l0_3)))) else (none)) else (none)) else (none))))) = some r := by rw [if_pos rfl] at H; exact H
                     clear H
                     have H := H1
                     clear H1
                     replace H := Option.bind_eq_some_iff.mp H
                     obtain ⟨t758, A700, H⟩ := H
                     replace H : ((saronref00_Turn.f t758 (x17_4.length : Int)).bind fun t759 => ((some (([] : List Int) : List Int)).bind fun y760 => (if 0 ≤ t759 then (if t759 < (x17_4.length : Int) then (if y760.length + ((rd_T60 x17_4 t759).f1).length < 17592186044416 then ((some (y760 ++ ((rd_T60 x17_4 t759).f1) : List Int)).bind fun y764 => (if (y764.length : Int) > 0 then ((saronref00_Nth.f l2 (wrap64 (x18_4 + 1))).bind fun t767 => ((saronref00_Turn.f t767 (y764.length : Int)).bind fun t768 => (if 0 ≤ t768 then (if t768 < (y764.length : Int) then ((saronlaw06_of.f ((rd_T60 x17_4 t759).f0) (y764.set (t768 : Int).toNat (-2))).bind fun bt771 => (saronlaw06_KernelWrongly.l2 kj66 l1 l2 t731 (x17_4.set (t759 : Int).toNat (⟨bt771.1, bt771.2⟩ : S60)) (wrap64 (x18_4 + 1)) a0_0 a0_1 a0_2 l0_3)) else (none)) else (none)))) else ((saronlaw06_of.f ((rd_T60 x17_4 t759).f0) y764).bind fun bt777 => (saronlaw06_KernelWrongly.l2 kj66 l1 l2 t731 (x17_4.set (t759 : Int).toNat (⟨bt777.1, bt777.2⟩ : S60)) (wrap64 (x18_4 + 1)) a0_0 a0_1 a0_2 l0_3)))) else (none)) else (none)) else (none)))) = some r := H
                     have A70 := zh A700
                     clear A700
                     replace H := Option.bind_eq_some_iff.mp H
                     obtain ⟨t759, A710, H⟩ := H
                     replace H : ((some (([] : List Int) : List Int)).bind fun y760 => (if 0 ≤ t759 then (if t759 < (x17_4.length : Int) then (if y760.length + ((rd_T60 x17_4 t759).f1).length < 17592186044416 then ((some (y760 ++ ((rd_T60 x17_4 t759).f1) : List Int)).bind fun y764 => (if (y764.length : Int) > 0 then ((saronref00_Nth.f l2 (wrap64 (x18_4 + 1))).bind fun t767 => ((saronref00_Turn.f t767 (y764.length : Int)).bind fun t768 => (if 0 ≤ t768 then (if t768 < (y764.length : Int) then ((saronlaw06_of.f ((rd_T60 x17_4 t759).f0) (y764.set (t768 : Int).toNat (-2))).bind fun bt771 => (saronlaw06_KernelWrongly.l2 kj66 l1 l2 t731 (x17_4.set (t759 : Int).toNat (⟨bt771.1, bt771.2⟩ : S60)) (wrap64 (x18_4 + 1)) a0_0 a0_1 a0_2 l0_3)) else (none)) else (none)))) else ((saronlaw06_of.f ((rd_T60 x17_4 t759).f0) y764).bind fun bt777 => (saronlaw06_KernelWrongly.l2 kj66 l1 l2 t731 (x17_4.set (t759 : Int).toNat (⟨bt777.1, bt777.2⟩ : S60)) (wrap64 (x18_4 + 1)) a0_0 a0_1 a0_2 l0_3)))) else (none)) else (none)) else (none))) = some r := H
                     have A71 := zh A710
                     clear A710
                     obtain ⟨y760, hy760⟩ : ∃ y_ : List Int, y_ = (([] : List Int)) := ⟨_, rfl⟩
                     replace H : (if 0 ≤ t759 then (if t759 < (x17_4.length : Int) then (if y760.length + ((rd_T60 x17_4 t759).f1).length < 17592186044416 then ((some (y760 ++ ((rd_T60 x17_4 t759).f1) : List Int)).bind fun y764 => (if (y764.length : Int) > 0 then ((saronref00_Nth.f l2 (wrap64 (x18_4 + 1))).bind fun t767 => ((saronref00_Turn.f t767 (y764.length : Int)).bind fun t768 => (if 0 ≤ t768 then (if t768 < (y764.length : Int) then ((saronlaw06_of.f ((rd_T60 x17_4 t759).f0) (y764.set (t768 : Int).toNat (-2))).bind fun bt771 => (saronlaw06_KernelWrongly.l2 kj66 l1 l2 t731 (x17_4.set (t759 : Int).toNat (⟨bt771.1, bt771.2⟩ : S60)) (wrap64 (x18_4 + 1)) a0_0 a0_1 a0_2 l0_3)) else (none)) else (none)))) else ((saronlaw06_of.f ((rd_T60 x17_4 t759).f0) y764).bind fun bt777 => (saronlaw06_KernelWrongly.l2 kj66 l1 l2 t731 (x17_4.set (t759 : Int).toNat (⟨bt777.1, bt777.2⟩ : S60)) (wrap64 (x18_4 + 1)) a0_0 a0_1 a0_2 l0_3)))) else (none)) else (none)) else (none)) = some r := by first | (rw [hy760]; with_reducible exact H) | (have H2_ := (Option.bind_some _ _).symm.trans H; rw [hy760]; with_reducible exact H2_) | (have H2_ := (Option.bind_some _ _).symm.trans H; with_reducible exact H2_) | with_reducible exact H | (rw [hy760]; exact H) | exact H
                     have Ny760 := zh hy760
                     clear hy760
                     by_cases c72 : 0 ≤ t759
                     ·rw [if_pos c72] at H
                      have c72b0 : decide (0 ≤ t759) = true := decide_eq_true c72
                      clear c72
                      by_cases c73 : t759 < (x17_4.length : Int)
                      ·rw [if_pos c73] at H
                       have c73b0 : decide (t759 < (x17_4.length : Int)) = true := decide_eq_true c73
                       clear c73
                       by_cases c74 : y760.length + ((rd_T60 x17_4 t759).f1).length < 17592186044416
                       ·rw [if_pos c74] at H
                        have LMc74 := zh c74
                        clear c74
                        obtain ⟨y764, hy764⟩ : ∃ y_ : List Int, y_ = (y760 ++ ((rd_T60 x17_4 t759).f1)) := ⟨_, rfl⟩
                        replace H : (if (y764.length : Int) > 0 then ((saronref00_Nth.f l2 (wrap64 (x18_4 + 1))).bind fun t767 => ((saronref00_Turn.f t767 (y764.length : Int)).bind fun t768 => (if 0 ≤ t768 then (if t768 < (y764.length : Int) then ((saronlaw06_of.f ((rd_T60 x17_4 t759).f0) (y764.set (t768 : Int).toNat (-2))).bind fun bt771 => (saronlaw06_KernelWrongly.l2 kj66 l1 l2 t731 (x17_4.set (t759 : Int).toNat (⟨bt771.1, bt771.2⟩ : S60)) (wrap64 (x18_4 + 1)) a0_0 a0_1 a0_2 l0_3)) else (none)) else (none)))) else ((saronlaw06_of.f ((rd_T60 x17_4 t759).f0) y764).bind fun bt777 => (saronlaw06_KernelWrongly.l2 kj66 l1 l2 t731 (x17_4.set (t759 : Int).toNat (⟨bt777.1, bt777.2⟩ : S60)) (wrap64 (x18_4 + 1)) a0_0 a0_1 a0_2 l0_3))) = some r := by first | (rw [hy764]; with_reducible exact H) | (have H2_ := (Option.bind_some _ _).symm.trans H; rw [hy764]; with_reducible exact H2_) | (have H2_ := (Option.bind_some _ _).symm.trans H; with_reducible exact H2_) | with_reducible exact H | (rw [hy764]; exact H) | exact H
                        have Ny764 := zh hy764
                        clear hy764
                        by_cases c75 : (y764.length : Int) > 0
                        ·rw [if_pos c75] at H
                         have c75b0 : decide (0 < (y764.length : Int)) = true := decide_eq_true c75
                         have c75b1 : decide (0 < y764.length) = true := decide_eq_true (by omega)
                         clear c75
                         replace H := Option.bind_eq_some_iff.mp H
                         obtain ⟨t767, A760, H⟩ := H
                         replace H : ((saronref00_Turn.f t767 (y764.length : Int)).bind fun t768 => (if 0 ≤ t768 then (if t768 < (y764.length : Int) then ((saronlaw06_of.f ((rd_T60 x17_4 t759).f0) (y764.set (t768 : Int).toNat (-2))).bind fun bt771 => (saronlaw06_KernelWrongly.l2 kj66 l1 l2 t731 (x17_4.set (t759 : Int).toNat (⟨bt771.1, bt771.2⟩ : S60)) (wrap64 (x18_4 + 1)) a0_0 a0_1 a0_2 l0_3)) else (none)) else (none))) = some r := H
                         have A76 := zh A760
                         clear A760
                         replace H := Option.bind_eq_some_iff.mp H
                         obtain ⟨t768, A770, H⟩ := H
                         replace H : (if 0 ≤ t768 then (if t768 < (y764.length : Int) then ((saronlaw06_of.f ((rd_T60 x17_4 t759).f0) (y764.set (t768 : Int).toNat (-2))).bind fun bt771 => (saronlaw06_KernelWrongly.l2 kj66 l1 l2 t731 (x17_4.set (t759 : Int).toNat (⟨bt771.1, bt771.2⟩ : S60)) (wrap64 (x18_4 + 1)) a0_0 a0_1 a0_2 l0_3)) else (none)) else (none)) = some r := H
                         have A77 := zh A770
                         clear A770
                         by_cases c78 : 0 ≤ t768
                         ·rw [if_pos c78] at H
                          have c78b0 : decide (0 ≤ t768) = true := decide_eq_true c78
                          clear c78
                          by_cases c79 : t768 < (y764.length : Int)
                          ·rw [if_pos c79] at H
                           have c79b0 : decide (t768 < (y764.length : Int)) = true := decide_eq_true c79
                           clear c79
                           obtain ⟨y769, hy769⟩ : ∃ y_ : List Int, y_ = (y764.set (t768 : Int).toNat (-2)) := ⟨_, rfl⟩
                           replace H : ((saronlaw06_of.f ((rd_T60 x17_4 t759).f0) y769).bind fun bt771 => (saronlaw06_KernelWrongly.l2 kj66 l1 l2 t731 (x17_4.set (t759 : Int).toNat (⟨bt771.1, bt771.2⟩ : S60)) (wrap64 (x18_4 + 1)) a0_0 a0_1 a0_2 l0_3)) = some r := by first | (rw [hy769]; with_reducible exact H) | (have H2_ := (Option.bind_some _ _).symm.trans H; rw [hy769]; with_reducible exact H2_) | (have H2_ := (Option.bind_some _ _).symm.trans H; with_reducible exact H2_) | with_reducible exact H | (rw [hy769]; exact H) | exact H
                           have Ny769 := zh hy769
                           clear hy769
                           replace H := Option.bind_eq_some_iff.mp H
                           obtain ⟨⟨t771, t772⟩, A810, H⟩ := H
                           replace H : (saronlaw06_KernelWrongly.l2 kj66 l1 l2 t731 (x17_4.set (t759 : Int).toNat (⟨t771, t772⟩ : S60)) (wrap64 (x18_4 + 1)) a0_0 a0_1 a0_2 l0_3) = some r := H
                           have A81 := zh A810
                           clear A810
                           obtain ⟨y775, hy775⟩ : ∃ y_ : List (S60), y_ = (x17_4.set (t759 : Int).toNat (⟨t771, t772⟩ : S60)) := ⟨_, rfl⟩
                           replace H : (saronlaw06_KernelWrongly.l2 kj66 l1 l2 t731 y775 (wrap64 (x18_4 + 1)) a0_0 a0_1 a0_2 l0_3) = some r := by first | (rw [hy775]; with_reducible exact H) | (have H2_ := (Option.bind_some _ _).symm.trans H; rw [hy775]; with_reducible exact H2_) | (have H2_ := (Option.bind_some _ _).symm.trans H; with_reducible exact H2_) | with_reducible exact H | (rw [hy775]; exact H) | exact H
                           have Ny775 := zh hy775
                           clear hy775
                           have H' := zh H
                           clear H
                           go_wp2_with (first | ((with_reducible refine gate_callee (f := 47) rfl ?_); refine goesL_ (some 172) rfl rfl Tryd.func47 zk rfl #[.slice A2 l2.length c2, .int .i64 x18_4] rfl zm ?_; (with_reducible refine (saronref00_Nth.calls _ _ l2 x18_4 t758 _ ?side1 ?side2 A70.out).mono ?_); (case side1 => repeat (first | exact (Kd.C_below HR2.out HB.out) | (with_reducible refine Kd.C_alloc ?_ _) | (with_reducible refine Kd.C_drewN ?_ _) | (with_reducible refine Kd.C_drew ?_))); (case side2 => exact HC2.out); rintro e w' ⟨rfl, ⟨nd, rfl⟩⟩; refine ⟨_, rfl, ?_⟩; (try (rw [drewN_self wc]; generalize hq_ : World.drewN wc _ = wc; have n0_ : Aside0 (Kd.V k60 60 wc w.heap.size (fun k_ => (P1_ k_ ∨ w.heap.size ≤ k_) ∧ some k_ ≠ (v756 : Value).ownBlock ∧ k_ ≠ gb730) (.slice A1 l1.length c1) l1) := ⟨by rw [← hq_]; exact (zV HO_1)⟩; have n1_ : Aside0 (Kd.N k60 60 wc w.heap.size (fun k_ => (P1_ k_ ∨ w.heap.size ≤ k_) ∧ k_ ≠ gb730) v756 x17_4) := ⟨by rw [← hq_]; exact (zN HO_17)⟩; have n2_ : Aside0 (wc.heap[gb730]? = some (.cells #[.int .i64 a0_0, .int .i64 a0_1, .int .i64 a0_2, .slice A0_3 l0_3.length c0_3] 24 (0, 0))) := ⟨by rw [← hq_]; exact (zc BK730)⟩; have n3_ : Aside0 (Below w.heap.size w wc) := ⟨by rw [← hq_]; exact zb⟩; clear HO_1 HO_17 BK730 HB hq_; have HO_1 := n0_; have HO_17 := n1_; have BK730 := n2_; have HB := n3_; clear n0_ n1_ n2_ n3_)); obtain ⟨Ao83, co83, eo83⟩ := Kd.N_slice HO_17.out; subst eo83) | ((with_reducible refine gate_callee (f := 42) rfl ?_); refine goesL_ (some 175) rfl rfl Tryd.func42 zk rfl #[.int .i64 t758, .int .i64 (x17_4.length : Int)] rfl zm ?_; (with_reducible refine (saronref00_Turn.calls t758 (x17_4.length : Int) t759 _ A71.out).mono ?_); rintro e w' ⟨rfl, ⟨nd, rfl⟩⟩; refine ⟨_, rfl, ?_⟩; (try (rw [drewN_self wc]; generalize hq_ : World.drewN wc _ = wc; have n0_ : Aside0 (Kd.V k60 60 wc w.heap.size (fun k_ => (P1_ k_ ∨ w.heap.size ≤ k_) ∧ some k_ ≠ (.slice Ao83 x17_4.length co83 : Value).ownBlock ∧ k_ ≠ gb730) (.slice A1 l1.length c1) l1) := ⟨by rw [← hq_]; exact (zV HO_1)⟩; have n1_ : Aside0 (Kd.N k60 60 wc w.heap.size (fun k_ => (P1_ k_ ∨ w.heap.size ≤ k_) ∧ k_ ≠ gb730) (.slice Ao83 x17_4.length co83) x17_4) := ⟨by rw [← hq_]; exact (zN HO_17)⟩; have n2_ : Aside0 (wc.heap[gb730]? = some (.cells #[.int .i64 a0_0, .int .i64 a0_1, .int .i64 a0_2, .slice A0_3 l0_3.length c0_3] 24 (0, 0))) := ⟨by rw [← hq_]; exact (zc BK730)⟩; have n3_ : Aside0 (Below w.heap.size w wc) := ⟨by rw [← hq_]; exact zb⟩; clear HO_1 HO_17 BK730 HB hq_; have HO_1 := n0_; have HO_17 := n1_; have BK730 := n2_; have HB := n3_; clear n0_ n1_ n2_ n3_))) | ((with_reducible refine gate_dst (N := 176) rfl ?_); (try (refine gate_guard (by rfl) ?_; dsimp only)); refine Kd.R_lit (Kd.int .i64) _ 3 ?hg (N := 176) ?hd (xs := ([] : List Int)) (inner := []) (ok := fun _ => True) (okp := fun _ => True) ?hr ?hp (fun _ hk => hk) trivial (Below.refl _ _) (Nat.le_refl _) (by simp) ?_; (case hd => rfl); (case hg => rfl); (case hr => first | (go_simp; done) | (go_simp; rfl)); (case hp => exact (Reps.none _ _)); intro v761 w84 ho85 hb hg_ hnew_; clear hg_ hnew_; (first | rw [← Ny760.out] at ho85 | (simp only [Int.reduceToNat] at ho85; rw [← Ny760.out] at ho85)); have n0_ := zh (Kd.V_elder' (zV HO_1) (Kd.R_base ho85) hb); have n1_ := zh (Kd.N_elder' (zN HO_17) (Kd.R_base ho85) hb); have n2_ := zh (Kd.R_lower (Kd.R_newM (M := fun k_ => (w.heap.size ≤ k_)) ho85 (below_size zb) (fun k_ h_ => h_)) (below_size zb)); have n3_ := zh (blk_below (g := gb730) (o := .cells #[.int .i64 a0_0, .int .i64 a0_1, .int .i64 a0_2, .slice A0_3 l0_3.length c0_3] 24 (0, 0)) (zc BK730) hb); have n4_ := zh (below_step zb hb); clear HO_1; clear HO_17; clear BK730; clear HB; have HO_1 := n0_; have HO_17 := n1_; have HO762 := n2_; have BK730 := n3_; have HB := n4_; clear n0_ n1_ n2_ n3_ n4_; clear hb ho85; have p763 : 0 ≤ (t759 : Int) := of_decide_eq_true zs; have q763 : t759 < (x17_4.length : Int) := of_decide_eq_true zs; obtain ⟨ad763, A763_1, c763_1, e763, hx763_0, hx763_1, hl763_1, hi763_1⟩ := at_T60 (Kd.N_reads' HO_17.out).2.2 t759 p763 q763; cases e763; obtain ⟨ce763, hce763, hMe763, hcc763⟩ := Kd.N_get HO_17.out z60 t759 p763 (by first | exact q763 | exact of_decide_eq_true zs | (have e_ := (Kd.N_reads' HO_17.out).1; omega)); obtain ⟨ua763_1, uc763_1, rfl, ul763_1, ge763_1⟩ := k60_openF hMe763; have hv763_1 := hcc763 1 _ rfl; rw [add_field _ _ 1 (by omega)] at hv763_1; replace hv763_1 := Option.some.inj (hv763_1.symm.trans hx763_1); injection hv763_1 with hva_ hvn_ hvc_; rw [hva_] at ge763_1; rw [hvc_] at ul763_1; have HL763_1 := zh (show Kd.V (Kd.int .i64) 3 _ w.heap.size _ _ ((rd_T60 x17_4 t759).f1) from Kd.V_mk ul763_1 ge763_1); clear hva_ hvn_ hvc_ ge763_1 ul763_1; clear hcc763 hce763; have HR763_1 := zh hi763_1; have HC763_1 := zh hl763_1; clear hi763_1 hl763_1; replace p763 := eq_true p763; replace q763 := eq_true q763) | ((with_reducible refine gate_builtin (b := .append) (xs := #[.tmp 176, .tmp 181]) rfl ?_); (try (refine gate_guard (by rfl) ?_; dsimp only)); at_builtin; refine Kd.R_append_rows (Kd.int .i64) (w0 := w) w.heap.size rfl (.tmp 176) (.tmp 181) 25 3 (.int .i64 0) 8 rfl Tryd.underlying25 info3 rfl (by decide) (by omega) v761 y760 ((rd_T60 x17_4 t759).f1) _ _ _ (fun k_ => (w.heap.size ≤ k_)) (fun _ => False) rfl rfl ?aO ?aR (fun _ _ h => h) (fun _ h => h.elim) ?aF ?aB ?aS ?aL ?_; (case aR => repeat (first | exact (by repeat (first | (with_reducible exact HR763_1.out) | (with_reducible refine Kd.C_alloc ?_ _) | (with_reducible refine Kd.C_drewN ?_ _) | (with_reducible refine Kd.C_drew ?_) | exact HR763_1.out)) | (with_reducible refine Kd.C_alloc ?_ _) | (with_reducible refine Kd.C_drewN ?_ _) | (with_reducible refine Kd.C_drew ?_))); (case aB => exact zb); (case aF => exact (fun k_ hk => (Nat.le_trans (below_size zb) hk))); (case aO => exact (by (with_reducible repeat (first | apply Kd.R_alloc | apply Kd.R_drewN | apply Kd.R_drew)); exact Kd.R_mono HO762.out (fun _ hk => hk.1))); (case aS => exact (below_size zb)); (case aL => have := LMc74.out; omega); intro v765 w86 ho hb hg hat; rw [← Ny764.out] at ho; have n0_ := zh (Kd.V_afterv (ok := (fun k_ => (P1_ k_ ∨ w.heap.size ≤ k_) ∧ some k_ ≠ (.slice (some ad763) x17_4.length co83 : Value).ownBlock ∧ k_ ≠ gb730)) (zV HO_1) hg hat); have n1_ := zh (Kd.N_afterv (ok := (fun k_ => (P1_ k_ ∨ w.heap.size ≤ k_) ∧ k_ ≠ gb730)) (zN HO_17) hg hat); have n2_ := zh (blk_grown (g := gb730) (o := .cells #[.int .i64 a0_0, .int .i64 a0_1, .int .i64 a0_2, .slice A0_3 l0_3.length c0_3] 24 (0, 0)) (zc BK730) hg (Kd.R_ne HO762.out BK730.out (by decide))); have n3_ := zh (Kd.V_afterv (ok := (fun k_ => (P1_ k_ ∨ w.heap.size ≤ k_) ∧ some k_ ≠ (.slice (some ad763) x17_4.length co83 : Value).ownBlock ∧ k_ ≠ gb730)) (by (with_reducible repeat (first | apply Kd.V_alloc | apply Kd.V_drewN | apply Kd.V_drew)); exact Kd.V_mono HL763_1.out (fun _ hk => ⟨⟨hk.1.1.1, ⟨hk.2, hk.1.1.2⟩⟩, hk.1.2⟩)) hg hat); have n4_ := zh (hb); have n5_ := zh (ho); clear HO_1; clear HO_17; clear BK730; clear HL763_1; clear HB; clear HO762; have HO_1 := n0_; have HO_17 := n1_; have BK730 := n2_; have HL763_1 := n3_; have HB := n4_; have HO766 := n5_; clear n0_ n1_ n2_ n3_ n4_ n5_; clear ho hb hg hat; obtain ⟨Ao87, co87, eo87⟩ := Kd.R_slice HO766.out; subst eo87) | ((with_reducible refine gate_callee (f := 47) rfl ?_); refine goesL_ (some 190) rfl rfl Tryd.func47 zk rfl #[.slice A2 l2.length c2, .int .i64 (wrap64 (x18_4 + 1))] rfl zm ?_; (with_reducible refine (saronref00_Nth.calls _ _ l2 (wrap64 (x18_4 + 1)) t767 _ ?side1 ?side2 A76.out).mono ?_); (case side1 => repeat (first | exact (Kd.C_below HR2.out HB.out) | (with_reducible refine Kd.C_alloc ?_ _) | (with_reducible refine Kd.C_drewN ?_ _) | (with_reducible refine Kd.C_drew ?_))); (case side2 => exact HC2.out); rintro e w' ⟨rfl, ⟨nd, rfl⟩⟩; refine ⟨_, rfl, ?_⟩; (try (rw [drewN_self w86]; generalize hq_ : World.drewN w86 _ = w86; have n0_ := zh (keep_V hq_ HL763_1.out); have n1_ : Aside0 (Kd.R (Kd.int .i64) 3 w86 w.heap.size (fun k_ => (w.heap.size ≤ k_)) (.slice Ao87 y764.length co87) y764) := ⟨by rw [← hq_]; exact (zR HO766)⟩; have n2_ := zh (keep_V hq_ HO_1.out); have n3_ := zh (keep_N hq_ HO_17.out); have n4_ : Aside0 (w86.heap[gb730]? = some (.cells #[.int .i64 a0_0, .int .i64 a0_1, .int .i64 a0_2, .slice A0_3 l0_3.length c0_3] 24 (0, 0))) := ⟨by rw [← hq_]; exact (zc BK730)⟩; have n5_ : Aside0 (Below w.heap.size w w86) := ⟨by rw [← hq_]; exact zb⟩; clear HL763_1 HO766 HO_1 HO_17 BK730 HB hq_; have HL763_1 := n0_; have HO766 := n1_; have HO_1 := n2_; have HO_17 := n3_; have BK730 := n4_; have HB := n5_; clear n0_ n1_ n2_ n3_ n4_ n5_))) | ((with_reducible refine gate_callee (f := 42) rfl ?_); refine goesL_ (some 193) rfl rfl Tryd.func42 zk rfl #[.int .i64 t767, .int .i64 (y764.length : Int)] rfl zm ?_; (with_reducible refine (saronref00_Turn.calls t767 (y764.length : Int) t768 _ A77.out).mono ?_); rintro e w' ⟨rfl, ⟨nd, rfl⟩⟩; refine ⟨_, rfl, ?_⟩; (try (rw [drewN_self w86]; generalize hq_ : World.drewN w86 _ = w86; have n0_ := zh (keep_V hq_ HL763_1.out); have n1_ : Aside0 (Kd.R (Kd.int .i64) 3 w86 w.heap.size (fun k_ => (w.heap.size ≤ k_)) (.slice Ao87 y764.length co87) y764) := ⟨by rw [← hq_]; exact (zR HO766)⟩; have n2_ := zh (keep_V hq_ HO_1.out); have n3_ := zh (keep_N hq_ HO_17.out); have n4_ : Aside0 (w86.heap[gb730]? = some (.cells #[.int .i64 a0_0, .int .i64 a0_1, .int .i64 a0_2, .slice A0_3 l0_3.length c0_3] 24 (0, 0))) := ⟨by rw [← hq_]; exact (zc BK730)⟩; have n5_ : Aside0 (Below w.heap.size w w86) := ⟨by rw [← hq_]; exact zb⟩; clear HL763_1 HO766 HO_1 HO_17 BK730 HB hq_; have HL763_1 := n0_; have HO766 := n1_; have HO_1 := n2_; have HO_17 := n3_; have BK730 := n4_; have HB := n5_; clear n0_ n1_ n2_ n3_ n4_ n5_)); have p80 : 0 ≤ (t768 : Int) := of_decide_eq_true zs; have q80 : (t768 : Int) < ((y764.length : Int) : Int) := of_decide_eq_true zs; obtain ⟨go80, co80, eo80, gb80, gl80, cl80, HG80⟩ := Kd.R_form HO766.out (by omega); (first | cases eo80 | (injection eo80 with ea_ en_ ec_; (first | subst ea_ | (injection ea_ with ea_; subst ea_)); subst ec_; clear en_)); have GB80 := zh gb80; have GG80 := zh HG80; clear gb80 gl80 HG80; obtain ⟨hx80_0, hf80_0⟩ := Kd.R_celln 0 HO766.out (t768 : Int) p80 q80; replace p80 := eq_true p80; replace q80 := eq_true q80; obtain ⟨hy88_, hz88_⟩ := Kd.R_celln 0 HO766.out (t768 : Int) (of_decide_eq_true zs) (of_decide_eq_true zs); have HP88 := Kd.R_putg HO766.out (t768 : Int) (-2)) | ((with_reducible refine gate_store (t := 3) (p := 194) rfl ?_); refine store_event (t := 3) (p := 194) (v := ?vo_w89) (w1 := (w86.setCell ⟨go80, (t768 : Int).toNat, none⟩ (.int .i64 (-2)))) ?hg ?ho ?hn ?hr ?_; (case ho => rfl); (case hg => rfl); (case hn => rfl); (case hr => first | (go_simp; done) | (go_simp; rfl)); intro w89 hw; have hg : w86.grownBy w89 (some go80) := (by rw [hw]; exact HP88.2); have hp_ : Kd.R (Kd.int .i64) 3 w89 w.heap.size (fun k_ => (w.heap.size ≤ k_)) (.slice (some ⟨go80, 0, none⟩) y764.length co87) y769 := (by rw [hw, Ny769.out]; exact HP88.1); clear HP88; have n0_ := zh (Kd.V_afterv (v := (.slice (some ⟨go80, 0, none⟩) y764.length co87)) (v1 := (.slice (some ⟨go80, 0, none⟩) y764.length co87)) (ok := (fun k_ => (P1_ k_ ∨ w.heap.size ≤ k_) ∧ some k_ ≠ (.slice (some ad763) x17_4.length co83 : Value).ownBlock ∧ k_ ≠ gb730)) (zV HO_1) hg (.inl rfl)); have n1_ := zh (Kd.N_afterv (v := (.slice (some ⟨go80, 0, none⟩) y764.length co87)) (v1 := (.slice (some ⟨go80, 0, none⟩) y764.length co87)) (ok := (fun k_ => (P1_ k_ ∨ w.heap.size ≤ k_) ∧ k_ ≠ gb730)) (zN HO_17) hg (.inl rfl)); have n2_ := zh (blk_grown (g := gb730) (o := .cells #[.int .i64 a0_0, .int .i64 a0_1, .int .i64 a0_2, .slice A0_3 l0_3.length c0_3] 24 (0, 0)) (zc BK730) hg (Kd.R_ne HO766.out BK730.out (by decide))); have n3_ := zh (Kd.V_afterv (v := (.slice (some ⟨go80, 0, none⟩) y764.length co87)) (v1 := (.slice (some ⟨go80, 0, none⟩) y764.length co87)) (ok := (fun k_ => (P1_ k_ ∨ w.heap.size ≤ k_) ∧ some k_ ≠ (.slice (some ad763) x17_4.length co83 : Value).ownBlock ∧ k_ ≠ gb730)) (by (with_reducible repeat (first | apply Kd.V_alloc | apply Kd.V_drewN | apply Kd.V_drew)); exact HL763_1.out) hg (.inl rfl)); have n4_ := zh (hp_); have n5_ := zh ((by rw [hw]; exact below_set (HB.out) GB80.out : Below w.heap.size w w89)); clear HO_1; clear HO_17; clear BK730; clear HL763_1; clear HO766; clear HB; have HO_1 := n0_; have HO_17 := n1_; have BK730 := n2_; have HL763_1 := n3_; have HO766 := n4_; have HB := n5_; clear n0_ n1_ n2_ n3_ n4_ n5_; clear hg hw hp_; have p770 : 0 ≤ (t759 : Int) := of_decide_eq_true zs; have q770 : t759 < (x17_4.length : Int) := of_decide_eq_true zs; obtain ⟨ad770, A770_1, c770_1, e770, hx770_0, hx770_1, hl770_1, hi770_1⟩ := at_T60 (Kd.N_reads' HO_17.out).2.2 t759 p770 q770; obtain rfl : ad763 = ad770 := (by injection e770); obtain ⟨ce770, hce770, hMe770, hcc770⟩ := Kd.N_get HO_17.out z60 t759 p770 (by first | exact q770 | exact of_decide_eq_true zs | (have e_ := (Kd.N_reads' HO_17.out).1; omega)); obtain ⟨ua770_1, uc770_1, rfl, ul770_1, ge770_1⟩ := k60_openF hMe770; have hv770_1 := hcc770 1 _ rfl; rw [add_field _ _ 1 (by omega)] at hv770_1; replace hv770_1 := Option.some.inj (hv770_1.symm.trans hx770_1); injection hv770_1 with hva_ hvn_ hvc_; rw [hva_] at ge770_1; rw [hvc_] at ul770_1; have HL770_1 := zh (show Kd.V (Kd.int .i64) 3 _ w.heap.size _ _ ((rd_T60 x17_4 t759).f1) from Kd.V_mk ul770_1 ge770_1); clear hva_ hvn_ hvc_ ge770_1 ul770_1; clear hcc770 hce770; have HR770_1 := zh hi770_1; have HC770_1 := zh hl770_1; clear hi770_1 hl770_1; replace p770 := eq_true p770; replace q770 := eq_true q770) | ((with_reducible refine gate_callee (f := 44) rfl ?_); refine goesL_ (some 203) rfl rfl Tryd.func44 zk rfl #[.int .i64 ((rd_T60 x17_4 t759).f0), .slice (some ⟨go80, 0, none⟩) y764.length co87] rfl zm ?_; (with_reducible refine (saronlaw06_of.calls ((rd_T60 x17_4 t759).f0) (fun k_ => some k_ = (.slice (some ⟨go80, 0, none⟩) y764.length co87 : Value).ownBlock) (.slice (some ⟨go80, 0, none⟩) y764.length co87) y769 t771 t772 w _ ?side1 ?side2 A81.out).mono ?_); (case side1 => repeat (first | (with_reducible first | exact HB.out | apply below_alloc | apply pw_below_drewN | apply below_drew1 | refine below_set ?_ GE730.out) | exact HB.out)); (case side2 => exact Kd.R_tight rfl HO766.out); rintro e w90 ⟨v773, rfl, ho0, hb, hkp⟩; refine ⟨_, rfl, ?_⟩; have n0_ := zh (Kd.V_mono (ok' := fun k_ => (P1_ k_ ∨ w.heap.size ≤ k_) ∧ some k_ ≠ (.slice (some ad763) x17_4.length co83 : Value).ownBlock ∧ k_ ≠ gb730 ∧ some k_ ≠ (v773 : Value).ownBlock) (Kd.V_keptB (HO_1.out) hkp (fun k_ hk_ hs_ => (hk_.2) hs_)) (fun k_ hk_ => ⟨hk_.1.1.1, hk_.1.1.2.1, hk_.1.1.2.2, fun e_ => Or.elim (ho0.1 k_ e_.symm) (fun hs_ => hk_.2.1 hs_) (fun hn_ => Nat.not_le.2 hk_.2.2 hn_)⟩)); have n1_ := zh (Kd.N_mono (ok' := fun k_ => (P1_ k_ ∨ w.heap.size ≤ k_) ∧ k_ ≠ gb730 ∧ some k_ ≠ (v773 : Value).ownBlock) (Kd.N_keptB (HO_17.out) hkp (fun k_ hk_ hs_ => (hk_.2) hs_)) (fun k_ hk_ => ⟨hk_.1.1.1, hk_.1.1.2, fun e_ => Or.elim (ho0.1 k_ e_.symm) (fun hs_ => hk_.2.1 hs_) (fun hn_ => Nat.not_le.2 hk_.2.2 hn_)⟩)); have n2_ := zh (blk_kept (zc BK730) hkp (fun hs_ => (fun e_ => (Kd.R_ne HO766.out BK730.out (by decide)) e_) hs_)); have n3_ := zh (Kd.R_mono (ok' := fun k_ => (w.heap.size ≤ k_)) ho0 (fun k_ hk_ => Or.elim hk_ (fun hs_ => (HO766.out.1 k_ (hs_).symm)) (fun hn_ => (Nat.le_trans (below_size zb) hn_)))); have n4_ := zh (hb); clear HO_1; clear HO_17; clear BK730; clear HB; clear HO766; clear HL763_1; clear HL770_1; have HO_1 := n0_; have HO_17 := n1_; have BK730 := n2_; have HO774 := n3_; have HB := n4_; clear n0_ n1_ n2_ n3_ n4_; (try clear hb); (try clear hkp); (try clear ho0); have p82 : 0 ≤ (t759 : Int) := of_decide_eq_true zs; have q82 : (t759 : Int) < ((x17_4.length : Int) : Int) := of_decide_eq_true zs; obtain ⟨go82, co82, eo82, gb82, gl82, cl82, HG82⟩ := Kd.N_form HO_17.out (by omega); (first | cases eo82 | (injection eo82 with ea_ en_ ec_; (first | subst ea_ | (injection ea_ with ea_; subst ea_)); subst ec_; clear en_)); have GB82 := zh gb82; have GG82 := zh HG82; clear gb82 gl82 HG82; (first | simp only [add_plain] at hx763_0 | skip); (first | simp only [add_plain] at hx763_1 | skip); (first | simp only [add_plain] at hx770_0 | skip); (first | simp only [add_plain] at hx770_1 | skip); obtain ⟨ce82, hcl82, hM82, hcc82, hfr82⟩ := Kd.N_elem HO_17.out z60 (t759 : Int) p82 q82; obtain ⟨ua82_1, uc82_1, rfl, ul82_1, ge82_1⟩ := k60_openF hM82; have hx82_0 : w90.cell? ⟨go82, (t759 : Int).toNat * 2, none⟩ = some (.int .i64 ((rd_T60 x17_4 t759).f0)) := hcc82 0 _ rfl; have hx82_1 : w90.cell? ⟨go82, (t759 : Int).toNat * 2 + 1, none⟩ = some (.slice ua82_1 ((rd_T60 x17_4 t759).f1).length uc82_1) := hcc82 1 _ rfl; have hf82_0 : w90.frozen? ⟨go82, (t759 : Int).toNat * 2, none⟩ = false := hfr82 0; have hf82_1 : w90.frozen? ⟨go82, (t759 : Int).toNat * 2 + 1, none⟩ = false := hfr82 1; clear hcl82 hcc82 hfr82 hM82; replace p82 := eq_true p82; replace q82 := eq_true q82; have HX91 := zh (show Kd.N k60 60 w90 w.heap.size (fun k_ => (P1_ k_ ∨ w.heap.size ≤ k_) ∧ k_ ≠ gb730) (.slice (some ⟨go82, 0, none⟩) x17_4.length co83) x17_4 from (by (with_reducible repeat (first | apply Kd.N_alloc | apply Kd.N_drewN | apply Kd.N_drew)); exact Kd.N_mono HO_17.out (fun _ hk => ⟨hk.1, hk.2.1⟩))); obtain ⟨ce91, hcl91, hM91, hcc91, hfr91⟩ := Kd.N_elem HX91.out z60 (t759 : Int) (of_decide_eq_true zs) (by have h_ : (t759 : Int) < ((x17_4.length : Int) : Int) := of_decide_eq_true zs; first | exact h_ | (have e_ := (Kd.N_reads' HO_17.out).1; omega) | simpa using h_); obtain ⟨ua91_1, uc91_1, rfl, ul91_1, ge91_1⟩ := k60_openF hM91; have hch_ := (Kd.R_types (Kd.R_apart' (HO774.out) (Kd.N_typed HO_17.out) (by decide)) BK730.out (by decide)); have HP91 := Kd.N_seg HX91.out (t759 : Int) (of_decide_eq_true zs) (by have h_ : (t759 : Int) < ((x17_4.length : Int) : Int) := of_decide_eq_true zs; first | exact h_ | (have e_ := (Kd.N_reads' HO_17.out).1; omega) | simpa using h_) (seg := [.int .i64 t771, v773]) (j := 0) hcl91 hcc91 (show 2 ≤ 2 from by decide) (x' := (⟨t771, t772⟩ : S60)) (k60_mkV _ _ (⟨t771, t772⟩ : S60) (Kd.R_mono (ok' := (fun k_ => ((fun k_ => (P1_ k_ ∨ w.heap.size ≤ k_) ∧ k_ ≠ gb730)) k_ ∧ k_ ≠ go82)) hch_ (fun k_ hk => ⟨⟨(.inr (hk.1.1)), hk.2⟩, fun e_ => (hk.1.2) (by rw [e_]; rfl)⟩))) (fun _ hk => hk); clear hch_; have hx91_0 := hcc91 0 _ rfl; (try simp only [show (k60).sz = 2 from rfl, Nat.mul_one, Nat.add_zero] at hx91_0); have hf91_0 := hfr91 0; (try simp only [show (k60).sz = 2 from rfl, Nat.mul_one, Nat.add_zero] at hf91_0); have hx91_1 := hcc91 1 _ rfl; (try simp only [show (k60).sz = 2 from rfl, Nat.mul_one, Nat.add_zero] at hx91_1); have hf91_1 := hfr91 1; (try simp only [show (k60).sz = 2 from rfl, Nat.mul_one, Nat.add_zero] at hf91_1); clear hcl91 hcc91 hfr91 hM91) | ((with_reducible refine gate_store (t := 60) (p := 204) rfl ?_); refine store_event (t := 60) (p := 204) (v := ?vo_w92) (w1 := ((w90.setCell ⟨go82, (t759 : Int).toNat * 2, none⟩ (.int .i64 t771)).setCell ⟨go82, (t759 : Int).toNat * 2 + 1, none⟩ (v773))) ?hg ?ho ?hn ?hr ?_; (case ho => rfl); (case hg => rfl); (case hn => rfl); (case hr => obtain ⟨av_, cv_, ev_⟩ := Kd.R_slice HO774.out; rw [ev_]; first | (go_simp; done) | (go_simp; rfl)); intro w92 hw; have hg : w90.grownBy w92 (some go82) := (by rw [hw]; exact HP91.2); have hp_ : Kd.N k60 60 w92 w.heap.size (fun k_ => (P1_ k_ ∨ w.heap.size ≤ k_) ∧ k_ ≠ gb730) (.slice (some ⟨go82, 0, none⟩) x17_4.length co83) y775 := (by rw [hw, Ny775.out]; exact HP91.1); clear HP91; have n0_ := zh (Kd.V_afterv (v := (.slice (some ⟨go82, 0, none⟩) x17_4.length co83)) (v1 := (.slice (some ⟨go82, 0, none⟩) x17_4.length co83)) (ok := (fun k_ => (P1_ k_ ∨ w.heap.size ≤ k_) ∧ some k_ ≠ (v773 : Value).ownBlock ∧ k_ ≠ gb730)) dWr2 hg (.inl rfl)); have n1_ := zh (hp_); have n2_ := zh (blk_grown (g := gb730) (o := .cells #[.int .i64 a0_0, .int .i64 a0_1, .int .i64 a0_2, .slice A0_3 l0_3.length c0_3] 24 (0, 0)) (zc BK730) hg (Kd.N_ne HO_17.out BK730.out (by decide))); have n3_ := zh ((by rw [hw]; exact below_set (below_set (HB.out) GB82.out) GB82.out : Below w.heap.size w w92)); clear HO_1; clear HO_17; clear BK730; clear HB; clear HO774; have HO_1 := n0_; have HO_17 := n1_; have BK730 := n2_; have HB := n3_; clear n0_ n1_ n2_ n3_; clear hg hw hp_))
                           go_roundg kj66
                           case measure => have := HJ5.out; have := HK2.out; have := HJ58.out; have := HK4.out; have := HJ66.out; omega
                           case rel => exact ⟨(y775), (wrap64 (x18_4 + 1)), ze, H', ⟨by have := HJ5.out; have := HK2.out; have := HJ58.out; have := HK4.out; have := HJ66.out; omega⟩, ⟨by (with_reducible repeat (first | apply Kd.V_alloc | apply Kd.V_drewN | apply Kd.V_drew)); exact Kd.V_mono HO_1.out (fun _ hk => ⟨hk.1.1, ⟨hk.2, hk.1.2.2⟩⟩)⟩, ⟨zN HO_17⟩, ⟨zc BK730⟩, ⟨zb⟩⟩
                          ·rw [if_neg c79] at H
                           exact absurd H (by simp)
                         ·rw [if_neg c78] at H
                          exact absurd H (by simp)
                        ·rw [if_neg c75] at H
                         have c75b0 : decide (0 < (y764.length : Int)) = false := decide_eq_false c75
                         have c75b1 : decide (0 < y764.length) = false := decide_eq_false (by omega)
                         clear c75
                         replace H := Option.bind_eq_some_iff.mp H
                         obtain ⟨⟨t777, t778⟩, A930, H⟩ := H
                         replace H : (saronlaw06_KernelWrongly.l2 kj66 l1 l2 t731 (x17_4.set (t759 : Int).toNat (⟨t777, t778⟩ : S60)) (wrap64 (x18_4 + 1)) a0_0 a0_1 a0_2 l0_3) = some r := H
                         have A93 := zh A930
                         clear A930
                         obtain ⟨y781, hy781⟩ : ∃ y_ : List (S60), y_ = (x17_4.set (t759 : Int).toNat (⟨t777, t778⟩ : S60)) := ⟨_, rfl⟩
                         replace H : (saronlaw06_KernelWrongly.l2 kj66 l1 l2 t731 y781 (wrap64 (x18_4 + 1)) a0_0 a0_1 a0_2 l0_3) = some r := by first | (rw [hy781]; with_reducible exact H) | (have H2_ := (Option.bind_some _ _).symm.trans H; rw [hy781]; with_reducible exact H2_) | (have H2_ := (Option.bind_some _ _).symm.trans H; with_reducible exact H2_) | with_reducible exact H | (rw [hy781]; exact H) | exact H
                         have Ny781 := zh hy781
                         clear hy781
                         have H' := zh H
                         clear H
                         go_wp2_with (first | ((with_reducible refine gate_callee (f := 47) rfl ?_); refine goesL_ (some 172) rfl rfl Tryd.func47 zk rfl #[.slice A2 l2.length c2, .int .i64 x18_4] rfl zm ?_; (with_reducible refine (saronref00_Nth.calls _ _ l2 x18_4 t758 _ ?side1 ?side2 A70.out).mono ?_); (case side1 => repeat (first | exact (Kd.C_below HR2.out HB.out) | (with_reducible refine Kd.C_alloc ?_ _) | (with_reducible refine Kd.C_drewN ?_ _) | (with_reducible refine Kd.C_drew ?_))); (case side2 => exact HC2.out); rintro e w' ⟨rfl, ⟨nd, rfl⟩⟩; refine ⟨_, rfl, ?_⟩; (try (rw [drewN_self wc]; generalize hq_ : World.drewN wc _ = wc; have n0_ : Aside0 (Kd.V k60 60 wc w.heap.size (fun k_ => (P1_ k_ ∨ w.heap.size ≤ k_) ∧ some k_ ≠ (v756 : Value).ownBlock ∧ k_ ≠ gb730) (.slice A1 l1.length c1) l1) := ⟨by rw [← hq_]; exact (zV HO_1)⟩; have n1_ : Aside0 (Kd.N k60 60 wc w.heap.size (fun k_ => (P1_ k_ ∨ w.heap.size ≤ k_) ∧ k_ ≠ gb730) v756 x17_4) := ⟨by rw [← hq_]; exact (zN HO_17)⟩; have n2_ : Aside0 (wc.heap[gb730]? = some (.cells #[.int .i64 a0_0, .int .i64 a0_1, .int .i64 a0_2, .slice A0_3 l0_3.length c0_3] 24 (0, 0))) := ⟨by rw [← hq_]; exact (zc BK730)⟩; have n3_ : Aside0 (Below w.heap.size w wc) := ⟨by rw [← hq_]; exact zb⟩; clear HO_1 HO_17 BK730 HB hq_; have HO_1 := n0_; have HO_17 := n1_; have BK730 := n2_; have HB := n3_; clear n0_ n1_ n2_ n3_)); obtain ⟨Ao95, co95, eo95⟩ := Kd.N_slice HO_17.out; subst eo95) | ((with_reducible refine gate_callee (f := 42) rfl ?_); refine goesL_ (some 175) rfl rfl Tryd.func42 zk rfl #[.int .i64 t758, .int .i64 (x17_4.length : Int)] rfl zm ?_; (with_reducible refine (saronref00_Turn.calls t758 (x17_4.length : Int) t759 _ A71.out).mono ?_); rintro e w' ⟨rfl, ⟨nd, rfl⟩⟩; refine ⟨_, rfl, ?_⟩; (try (rw [drewN_self wc]; generalize hq_ : World.drewN wc _ = wc; have n0_ : Aside0 (Kd.V k60 60 wc w.heap.size (fun k_ => (P1_ k_ ∨ w.heap.size ≤ k_) ∧ some k_ ≠ (.slice Ao95 x17_4.length co95 : Value).ownBlock ∧ k_ ≠ gb730) (.slice A1 l1.length c1) l1) := ⟨by rw [← hq_]; exact (zV HO_1)⟩; have n1_ : Aside0 (Kd.N k60 60 wc w.heap.size (fun k_ => (P1_ k_ ∨ w.heap.size ≤ k_) ∧ k_ ≠ gb730) (.slice Ao95 x17_4.length co95) x17_4) := ⟨by rw [← hq_]; exact (zN HO_17)⟩; have n2_ : Aside0 (wc.heap[gb730]? = some (.cells #[.int .i64 a0_0, .int .i64 a0_1, .int .i64 a0_2, .slice A0_3 l0_3.length c0_3] 24 (0, 0))) := ⟨by rw [← hq_]; exact (zc BK730)⟩; have n3_ : Aside0 (Below w.heap.size w wc) := ⟨by rw [← hq_]; exact zb⟩; clear HO_1 HO_17 BK730 HB hq_; have HO_1 := n0_; have HO_17 := n1_; have BK730 := n2_; have HB := n3_; clear n0_ n1_ n2_ n3_))) | ((with_reducible refine gate_dst (N := 176) rfl ?_); (try (refine gate_guard (by rfl) ?_; dsimp only)); refine Kd.R_lit (Kd.int .i64) _ 3 ?hg (N := 176) ?hd (xs := ([] : List Int)) (inner := []) (ok := fun _ => True) (okp := fun _ => True) ?hr ?hp (fun _ hk => hk) trivial (Below.refl _ _) (Nat.le_refl _) (by simp) ?_; (case hd => rfl); (case hg => rfl); (case hr => first | (go_simp; done) | (go_simp; rfl)); (case hp => exact (Reps.none _ _)); intro v761 w96 ho97 hb hg_ hnew_; clear hg_ hnew_; (first | rw [← Ny760.out] at ho97 | (simp only [Int.reduceToNat] at ho97; rw [← Ny760.out] at ho97)); have n0_ := zh (Kd.V_elder' (zV HO_1) (Kd.R_base ho97) hb); have n1_ := zh (Kd.N_elder' (zN HO_17) (Kd.R_base ho97) hb); have n2_ := zh (Kd.R_lower (Kd.R_newM (M := fun k_ => (w.heap.size ≤ k_)) ho97 (below_size zb) (fun k_ h_ => h_)) (below_size zb)); have n3_ := zh (blk_below (g := gb730) (o := .cells #[.int .i64 a0_0, .int .i64 a0_1, .int .i64 a0_2, .slice A0_3 l0_3.length c0_3] 24 (0, 0)) (zc BK730) hb); have n4_ := zh (below_step zb hb); clear HO_1; clear HO_17; clear BK730; clear HB; have HO_1 := n0_; have HO_17 := n1_; have HO762 := n2_; have BK730 := n3_; have HB := n4_; clear n0_ n1_ n2_ n3_ n4_; clear hb ho97; have p763 : 0 ≤ (t759 : Int) := of_decide_eq_true zs; have q763 : t759 < (x17_4.length : Int) := of_decide_eq_true zs; obtain ⟨ad763, A763_1, c763_1, e763, hx763_0, hx763_1, hl763_1, hi763_1⟩ := at_T60 (Kd.N_reads' HO_17.out).2.2 t759 p763 q763; cases e763; obtain ⟨ce763, hce763, hMe763, hcc763⟩ := Kd.N_get HO_17.out z60 t759 p763 (by first | exact q763 | exact of_decide_eq_true zs | (have e_ := (Kd.N_reads' HO_17.out).1; omega)); obtain ⟨ua763_1, uc763_1, rfl, ul763_1, ge763_1⟩ := k60_openF hMe763; have hv763_1 := hcc763 1 _ rfl; rw [add_field _ _ 1 (by omega)] at hv763_1; replace hv763_1 := Option.some.inj (hv763_1.symm.trans hx763_1); injection hv763_1 with hva_ hvn_ hvc_; rw [hva_] at ge763_1; rw [hvc_] at ul763_1; have HL763_1 := zh (show Kd.V (Kd.int .i64) 3 _ w.heap.size _ _ ((rd_T60 x17_4 t759).f1) from Kd.V_mk ul763_1 ge763_1); clear hva_ hvn_ hvc_ ge763_1 ul763_1; clear hcc763 hce763; have HR763_1 := zh hi763_1; have HC763_1 := zh hl763_1; clear hi763_1 hl763_1; replace p763 := eq_true p763; replace q763 := eq_true q763) | ((with_reducible refine gate_builtin (b := .append) (xs := #[.tmp 176, .tmp 181]) rfl ?_); (try (refine gate_guard (by rfl) ?_; dsimp only)); at_builtin; refine Kd.R_append_rows (Kd.int .i64) (w0 := w) w.heap.size rfl (.tmp 176) (.tmp 181) 25 3 (.int .i64 0) 8 rfl Tryd.underlying25 info3 rfl (by decide) (by omega) v761 y760 ((rd_T60 x17_4 t759).f1) _ _ _ (fun k_ => (w.heap.size ≤ k_)) (fun _ => False) rfl rfl ?aO ?aR (fun _ _ h => h) (fun _ h => h.elim) ?aF ?aB ?aS ?aL ?_; (case aR => repeat (first | exact (by repeat (first | (with_reducible exact HR763_1.out) | (with_reducible refine Kd.C_alloc ?_ _) | (with_reducible refine Kd.C_drewN ?_ _) | (with_reducible refine Kd.C_drew ?_) | exact HR763_1.out)) | (with_reducible refine Kd.C_alloc ?_ _) | (with_reducible refine Kd.C_drewN ?_ _) | (with_reducible refine Kd.C_drew ?_))); (case aB => exact zb); (case aF => exact (fun k_ hk => (Nat.le_trans (below_size zb) hk))); (case aO => exact (by (with_reducible repeat (first | apply Kd.R_alloc | apply Kd.R_drewN | apply Kd.R_drew)); exact Kd.R_mono HO762.out (fun _ hk => hk.1))); (case aS => exact (below_size zb)); (case aL => have := LMc74.out; omega); intro v765 w98 ho hb hg hat; rw [← Ny764.out] at ho; have n0_ := zh (Kd.V_afterv (ok := (fun k_ => (P1_ k_ ∨ w.heap.size ≤ k_) ∧ some k_ ≠ (.slice (some ad763) x17_4.length co95 : Value).ownBlock ∧ k_ ≠ gb730)) (zV HO_1) hg hat); have n1_ := zh (Kd.N_afterv (ok := (fun k_ => (P1_ k_ ∨ w.heap.size ≤ k_) ∧ k_ ≠ gb730)) (zN HO_17) hg hat); have n2_ := zh (blk_grown (g := gb730) (o := .cells #[.int .i64 a0_0, .int .i64 a0_1, .int .i64 a0_2, .slice A0_3 l0_3.length c0_3] 24 (0, 0)) (zc BK730) hg (Kd.R_ne HO762.out BK730.out (by decide))); have n3_ := zh (Kd.V_afterv (ok := (fun k_ => (P1_ k_ ∨ w.heap.size ≤ k_) ∧ some k_ ≠ (.slice (some ad763) x17_4.length co95 : Value).ownBlock ∧ k_ ≠ gb730)) (by (with_reducible repeat (first | apply Kd.V_alloc | apply Kd.V_drewN | apply Kd.V_drew)); exact Kd.V_mono HL763_1.out (fun _ hk => ⟨⟨hk.1.1.1, ⟨hk.2, hk.1.1.2⟩⟩, hk.1.2⟩)) hg hat); have n4_ := zh (hb); have n5_ := zh (ho); clear HO_1; clear HO_17; clear BK730; clear HL763_1; clear HB; clear HO762; have HO_1 := n0_; have HO_17 := n1_; have BK730 := n2_; have HL763_1 := n3_; have HB := n4_; have HO766 := n5_; clear n0_ n1_ n2_ n3_ n4_ n5_; clear ho hb hg hat; obtain ⟨Ao99, co99, eo99⟩ := Kd.R_slice HO766.out; subst eo99; have p776 : 0 ≤ (t759 : Int) := of_decide_eq_true zs; have q776 : t759 < (x17_4.length : Int) := of_decide_eq_true zs; obtain ⟨ad776, A776_1, c776_1, e776, hx776_0, hx776_1, hl776_1, hi776_1⟩ := at_T60 (Kd.N_reads' HO_17.out).2.2 t759 p776 q776; obtain rfl : ad763 = ad776 := (by injection e776); obtain ⟨ce776, hce776, hMe776, hcc776⟩ := Kd.N_get HO_17.out z60 t759 p776 (by first | exact q776 | exact of_decide_eq_true zs | (have e_ := (Kd.N_reads' HO_17.out).1; omega)); obtain ⟨ua776_1, uc776_1, rfl, ul776_1, ge776_1⟩ := k60_openF hMe776; have hv776_1 := hcc776 1 _ rfl; rw [add_field _ _ 1 (by omega)] at hv776_1; replace hv776_1 := Option.some.inj (hv776_1.symm.trans hx776_1); injection hv776_1 with hva_ hvn_ hvc_; rw [hva_] at ge776_1; rw [hvc_] at ul776_1; have HL776_1 := zh (show Kd.V (Kd.int .i64) 3 _ w.heap.size _ _ ((rd_T60 x17_4 t759).f1) from Kd.V_mk ul776_1 ge776_1); clear hva_ hvn_ hvc_ ge776_1 ul776_1; clear hcc776 hce776; have HR776_1 := zh hi776_1; have HC776_1 := zh hl776_1; clear hi776_1 hl776_1; replace p776 := eq_true p776; replace q776 := eq_true q776) | ((with_reducible refine gate_callee (f := 44) rfl ?_); refine goesL_ (some 203) rfl rfl Tryd.func44 zk rfl #[.int .i64 ((rd_T60 x17_4 t759).f0), .slice Ao99 y764.length co99] rfl zm ?_; (with_reducible refine (saronlaw06_of.calls ((rd_T60 x17_4 t759).f0) (fun k_ => some k_ = (.slice Ao99 y764.length co99 : Value).ownBlock) (.slice Ao99 y764.length co99) y764 t777 t778 w _ ?side1 ?side2 A93.out).mono ?_); (case side1 => repeat (first | (with_reducible first | exact HB.out | apply below_alloc | apply pw_below_drewN | apply below_drew1 | refine below_set ?_ GE730.out) | exact HB.out)); (case side2 => exact Kd.R_tight rfl HO766.out); rintro e w100 ⟨v779, rfl, ho0, hb, hkp⟩; refine ⟨_, rfl, ?_⟩; have n0_ := zh (Kd.V_mono (ok' := fun k_ => (P1_ k_ ∨ w.heap.size ≤ k_) ∧ some k_ ≠ (.slice (some ad763) x17_4.length co95 : Value).ownBlock ∧ k_ ≠ gb730 ∧ some k_ ≠ (v779 : Value).ownBlock) (Kd.V_keptB (HO_1.out) hkp (fun k_ hk_ hs_ => (hk_.2) hs_)) (fun k_ hk_ => ⟨hk_.1.1.1, hk_.1.1.2.1, hk_.1.1.2.2, fun e_ => Or.elim (ho0.1 k_ e_.symm) (fun hs_ => hk_.2.1 hs_) (fun hn_ => Nat.not_le.2 hk_.2.2 hn_)⟩)); have n1_ := zh (Kd.N_mono (ok' := fun k_ => (P1_ k_ ∨ w.heap.size ≤ k_) ∧ k_ ≠ gb730 ∧ some k_ ≠ (v779 : Value).ownBlock) (Kd.N_keptB (HO_17.out) hkp (fun k_ hk_ hs_ => (hk_.2) hs_)) (fun k_ hk_ => ⟨hk_.1.1.1, hk_.1.1.2, fun e_ => Or.elim (ho0.1 k_ e_.symm) (fun hs_ => hk_.2.1 hs_) (fun hn_ => Nat.not_le.2 hk_.2.2 hn_)⟩)); have n2_ := zh (blk_kept (zc BK730) hkp (fun hs_ => (fun e_ => (Kd.R_ne HO766.out BK730.out (by decide)) e_) hs_)); have n3_ := zh (Kd.R_mono (ok' := fun k_ => (w.heap.size ≤ k_)) ho0 (fun k_ hk_ => Or.elim hk_ (fun hs_ => (HO766.out.1 k_ (hs_).symm)) (fun hn_ => (Nat.le_trans (below_size zb) hn_)))); have n4_ := zh (hb); clear HO_1; clear HO_17; clear BK730; clear HB; clear HO766; clear HL763_1; clear HL776_1; have HO_1 := n0_; have HO_17 := n1_; have BK730 := n2_; have HO780 := n3_; have HB := n4_; clear n0_ n1_ n2_ n3_ n4_; (try clear hb); (try clear hkp); (try clear ho0); have p94 : 0 ≤ (t759 : Int) := of_decide_eq_true zs; have q94 : (t759 : Int) < ((x17_4.length : Int) : Int) := of_decide_eq_true zs; obtain ⟨go94, co94, eo94, gb94, gl94, cl94, HG94⟩ := Kd.N_form HO_17.out (by omega); (first | cases eo94 | (injection eo94 with ea_ en_ ec_; (first | subst ea_ | (injection ea_ with ea_; subst ea_)); subst ec_; clear en_)); have GB94 := zh gb94; have GG94 := zh HG94; clear gb94 gl94 HG94; (first | simp only [add_plain] at hx763_0 | skip); (first | simp only [add_plain] at hx763_1 | skip); (first | simp only [add_plain] at hx776_0 | skip); (first | simp only [add_plain] at hx776_1 | skip); obtain ⟨ce94, hcl94, hM94, hcc94, hfr94⟩ := Kd.N_elem HO_17.out z60 (t759 : Int) p94 q94; obtain ⟨ua94_1, uc94_1, rfl, ul94_1, ge94_1⟩ := k60_openF hM94; have hx94_0 : w100.cell? ⟨go94, (t759 : Int).toNat * 2, none⟩ = some (.int .i64 ((rd_T60 x17_4 t759).f0)) := hcc94 0 _ rfl; have hx94_1 : w100.cell? ⟨go94, (t759 : Int).toNat * 2 + 1, none⟩ = some (.slice ua94_1 ((rd_T60 x17_4 t759).f1).length uc94_1) := hcc94 1 _ rfl; have hf94_0 : w100.frozen? ⟨go94, (t759 : Int).toNat * 2, none⟩ = false := hfr94 0; have hf94_1 : w100.frozen? ⟨go94, (t759 : Int).toNat * 2 + 1, none⟩ = false := hfr94 1; clear hcl94 hcc94 hfr94 hM94; replace p94 := eq_true p94; replace q94 := eq_true q94; have HX101 := zh (show Kd.N k60 60 w100 w.heap.size (fun k_ => (P1_ k_ ∨ w.heap.size ≤ k_) ∧ k_ ≠ gb730) (.slice (some ⟨go94, 0, none⟩) x17_4.length co95) x17_4 from (by (with_reducible repeat (first | apply Kd.N_alloc | apply Kd.N_drewN | apply Kd.N_drew)); exact Kd.N_mono HO_17.out (fun _ hk => ⟨hk.1, hk.2.1⟩))); obtain ⟨ce101, hcl101, hM101, hcc101, hfr101⟩ := Kd.N_elem HX101.out z60 (t759 : Int) (of_decide_eq_true zs) (by have h_ : (t759 : Int) < ((x17_4.length : Int) : Int) := of_decide_eq_true zs; first | exact h_ | (have e_ := (Kd.N_reads' HO_17.out).1; omega) | simpa using h_); obtain ⟨ua101_1, uc101_1, rfl, ul101_1, ge101_1⟩ := k60_openF hM101; have hch_ := (Kd.R_types (Kd.R_apart' (HO780.out) (Kd.N_typed HO_17.out) (by decide)) BK730.out (by decide)); have HP101 := Kd.N_seg HX101.out (t759 : Int) (of_decide_eq_true zs) (by have h_ : (t759 : Int) < ((x17_4.length : Int) : Int) := of_decide_eq_true zs; first | exact h_ | (have e_ := (Kd.N_reads' HO_17.out).1; omega) | simpa using h_) (seg := [.int .i64 t777, v779]) (j := 0) hcl101 hcc101 (show 2 ≤ 2 from by decide) (x' := (⟨t777, t778⟩ : S60)) (k60_mkV _ _ (⟨t777, t778⟩ : S60) (Kd.R_mono (ok' := (fun k_ => ((fun k_ => (P1_ k_ ∨ w.heap.size ≤ k_) ∧ k_ ≠ gb730)) k_ ∧ k_ ≠ go94)) hch_ (fun k_ hk => ⟨⟨(.inr (hk.1.1)), hk.2⟩, fun e_ => (hk.1.2) (by rw [e_]; rfl)⟩))) (fun _ hk => hk); clear hch_; have hx101_0 := hcc101 0 _ rfl; (try simp only [show (k60).sz = 2 from rfl, Nat.mul_one, Nat.add_zero] at hx101_0); have hf101_0 := hfr101 0; (try simp only [show (k60).sz = 2 from rfl, Nat.mul_one, Nat.add_zero] at hf101_0); have hx101_1 := hcc101 1 _ rfl; (try simp only [show (k60).sz = 2 from rfl, Nat.mul_one, Nat.add_zero] at hx101_1); have hf101_1 := hfr101 1; (try simp only [show (k60).sz = 2 from rfl, Nat.mul_one, Nat.add_zero] at hf101_1); clear hcl101 hcc101 hfr101 hM101) | ((with_reducible refine gate_store (t := 60) (p := 204) rfl ?_); refine store_event (t := 60) (p := 204) (v := ?vo_w102) (w1 := ((w100.setCell ⟨go94, (t759 : Int).toNat * 2, none⟩ (.int .i64 t777)).setCell ⟨go94, (t759 : Int).toNat * 2 + 1, none⟩ (v779))) ?hg ?ho ?hn ?hr ?_; (case ho => rfl); (case hg => rfl); (case hn => rfl); (case hr => obtain ⟨av_, cv_, ev_⟩ := Kd.R_slice HO780.out; rw [ev_]; first | (go_simp; done) | (go_simp; rfl)); intro w102 hw; have hg : w100.grownBy w102 (some go94) := (by rw [hw]; exact HP101.2); have hp_ : Kd.N k60 60 w102 w.heap.size (fun k_ => (P1_ k_ ∨ w.heap.size ≤ k_) ∧ k_ ≠ gb730) (.slice (some ⟨go94, 0, none⟩) x17_4.length co95) y781 := (by rw [hw, Ny781.out]; exact HP101.1); clear HP101; have n0_ := zh (Kd.V_afterv (v := (.slice (some ⟨go94, 0, none⟩) x17_4.length co95)) (v1 := (.slice (some ⟨go94, 0, none⟩) x17_4.length co95)) (ok := (fun k_ => (P1_ k_ ∨ w.heap.size ≤ k_) ∧ some k_ ≠ (v779 : Value).ownBlock ∧ k_ ≠ gb730)) dWr2 hg (.inl rfl)); have n1_ := zh (hp_); have n2_ := zh (blk_grown (g := gb730) (o := .cells #[.int .i64 a0_0, .int .i64 a0_1, .int .i64 a0_2, .slice A0_3 l0_3.length c0_3] 24 (0, 0)) (zc BK730) hg (Kd.N_ne HO_17.out BK730.out (by decide))); have n3_ := zh ((by rw [hw]; exact below_set (below_set (HB.out) GB94.out) GB94.out : Below w.heap.size w w102)); clear HO_1; clear HO_17; clear BK730; clear HB; clear HO780; have HO_1 := n0_; have HO_17 := n1_; have BK730 := n2_; have HB := n3_; clear n0_ n1_ n2_ n3_; clear hg hw hp_))
                         go_roundg kj66
                         case measure => have := HJ5.out; have := HK2.out; have := HJ58.out; have := HK4.out; have := HJ66.out; omega
                         case rel => exact ⟨(y781), (wrap64 (x18_4 + 1)), ze, H', ⟨by have := HJ5.out; have := HK2.out; have := HJ58.out; have := HK4.out; have := HJ66.out; omega⟩, ⟨by (with_reducible repeat (first | apply Kd.V_alloc | apply Kd.V_drewN | apply Kd.V_drew)); exact Kd.V_mono HO_1.out (fun _ hk => ⟨hk.1.1, ⟨hk.2, hk.1.2.2⟩⟩)⟩, ⟨zN HO_17⟩, ⟨zc BK730⟩, ⟨zb⟩⟩
                       ·rw [if_neg c74] at H
                        exact absurd H (by simp)
                      ·rw [if_neg c73] at H
                       exact absurd H (by simp)
                     ·rw [if_neg c72] at H
                      exact absurd H (by simp)
                    ·replace c69 := Bool.eq_false_iff.mpr c69
                     subst c69
                     have H1 : ((kernel_Many.f a0_0 a0_1 a0_2 l0_3 x17_4).bind fun bt782 => (if bt782.2 = 0 then (if t731 > 0 then (saronlaw06_KernelWrongly.j7 kj66 l1 l2 t731 (bt782.1 != 0) a0_0 a0_1 a0_2 l0_3) else (saronlaw06_KernelWrongly.j7 kj66 l1 l2 t731 false a0_0 a0_1 a0_2 l0_3)) else (saronlaw06_KernelWrongly.j7 kj66 l1 l2 t731 true a0_0 a0_1 a0_2 l0_3))) = some r := by rw [if_neg (show ¬ (false = true) by decide)] at H; exact H
                     clear H
                     have H := H1
                     clear H1
                     replace H := Option.bind_eq_some_iff.mp H
                     obtain ⟨⟨t782, t783⟩, A1030, H⟩ := H
                     replace H : (if t783 = 0 then (if t731 > 0 then (saronlaw06_KernelWrongly.j7 kj66 l1 l2 t731 (t782 != 0) a0_0 a0_1 a0_2 l0_3) else (saronlaw06_KernelWrongly.j7 kj66 l1 l2 t731 false a0_0 a0_1 a0_2 l0_3)) else (saronlaw06_KernelWrongly.j7 kj66 l1 l2 t731 true a0_0 a0_1 a0_2 l0_3)) = some r := H
                     have A103 := zh A1030
                     clear A1030
                     have HC104 := zh H
                     clear H
                     have hcz105_0 : wc.cell? ⟨gb730, 0, none⟩ = some (.int .i64 a0_0) := vb BK730 0
                     have hcz105_1 : wc.cell? ⟨gb730, 1, none⟩ = some (.int .i64 a0_1) := vb BK730 1
                     have hcz105_2 : wc.cell? ⟨gb730, 2, none⟩ = some (.int .i64 a0_2) := vb BK730 2
                     have hcz105_3 : wc.cell? ⟨gb730, 3, none⟩ = some (.slice A0_3 l0_3.length c0_3) := vb BK730 3
                     have hfz105_0 := blk_frozen BK730.out 0
                     have hfz105_1 := blk_frozen BK730.out 1
                     have hfz105_2 := blk_frozen BK730.out 2
                     have hfz105_3 := blk_frozen BK730.out 3
                     obtain ⟨Ao106, co106, eo106⟩ := Kd.N_slice HO_17.out
                     subst eo106
                     go_upto_region 29 with (first | ((with_reducible refine gate_callee (f := 22) rfl ?_); refine goesL_ (some 208) rfl rfl Tryd.func22 zk rfl #[.agg #[.int .i64 a0_0, .int .i64 a0_1, .int .i64 a0_2, .slice A0_3 l0_3.length c0_3], .slice Ao106 x17_4.length co106] rfl zm ?_; (with_reducible refine (kernel_Many.calls a0_0 a0_1 a0_2 _ _ l0_3 _ _ x17_4 t782 t783 _ ?side1 ?side2 ?side3 ?side4 ?side5 A103.out).mono ?_); (case side1 => repeat (first | exact (Kd.C_below HR0_3.out HB.out) | (with_reducible refine Kd.C_alloc ?_ _) | (with_reducible refine Kd.C_drewN ?_ _) | (with_reducible refine Kd.C_drew ?_))); (case side2 => exact HC0_3.out); (case side3 => repeat (first | exact (Kd.N_reads' HO_17.out).2.2 | (with_reducible refine Kd.C_alloc ?_ _) | (with_reducible refine Kd.C_drewN ?_ _) | (with_reducible refine Kd.C_drew ?_))); (case side4 => exact (Kd.N_reads' HO_17.out).2.1); (case side5 => exact Glob.below HG.out zb); rintro e w107 ⟨rfl, hb⟩; refine ⟨_, rfl, ?_⟩; have n0_ := zh (Kd.V_below (zV HO_1) hb); have n1_ := zh (Kd.N_below (zN HO_17) hb); have n2_ := zh (blk_below (g := gb730) (o := .cells #[.int .i64 a0_0, .int .i64 a0_1, .int .i64 a0_2, .slice A0_3 l0_3.length c0_3] 24 (0, 0)) (zc BK730) hb); have n3_ := zh (below_step zb hb); clear HO_1; clear HO_17; clear BK730; clear HB; have HO_1 := n0_; have HO_17 := n1_; have BK730 := n2_; have HB := n3_; clear n0_ n1_ n2_ n3_; (try clear hb); (try clear hb2); (try clear hk); (try clear hi)))
                     (try simp only [Act.put, List.setIfInBounds_toArray, List.set_cons_zero, List.set_cons_succ])
                     go_cut [220] (fun v220 wc => ∃ (kq : Nat) (x220_103 : Bool), v220 = .bool x220_103 ∧ Aside0 (saronlaw06_KernelWrongly.j7 kq l1 l2 t731 x220_103 a0_0 a0_1 a0_2 l0_3 = some r) ∧ Aside0 (kq ≤ kj66) ∧ Aside0 (Kd.V k60 60 wc w.heap.size (fun k_ => (P1_ k_ ∨ w.heap.size ≤ k_) ∧ k_ ≠ gb730) (.slice A1 l1.length c1) l1) ∧ Aside0 (wc.heap[gb730]? = some (.cells #[.int .i64 a0_0, .int .i64 a0_1, .int .i64 a0_2, (.slice A0_3 l0_3.length c0_3)] 24 (0, 0))) ∧ Aside0 (Below w.heap.size w wc))
                     case first =>
                      have H := HC104.out
                      clear HC104
                      by_cases c108 : t783 = 0
                      ·rw [if_pos c108] at H
                       have c108b0 : (t783 == 0) = true := beq_iff_eq.mpr c108
                       have c108b1 : (t783 != 0) = false := bne_eq_false_iff_eq.mpr c108
                       clear c108
                       (first | rw [c108b0] | rw [c108b1] | (simp only [i64_w, i32_w]; first | rw [c108b0] | rw [c108b1]) | skip)
                       by_cases c109 : t731 > 0
                       ·rw [if_pos c109] at H
                        have c109b0 : decide (0 < t731) = true := decide_eq_true c109
                        clear c109
                        have H' := zh H
                        clear H
                        go_wp2
                        go_meet
                        case rel => exact ⟨_, ((t782 != 0)), ze, H', ⟨by have := HJ5.out; have := HK2.out; have := HJ58.out; have := HK4.out; have := HJ66.out; first | omega | exact Nat.le_refl _⟩, ⟨by (with_reducible repeat (first | apply Kd.V_alloc | apply Kd.V_drewN | apply Kd.V_drew)); exact Kd.V_mono HO_1.out (fun _ hk => ⟨hk.1, hk.2.2⟩)⟩, ⟨zc BK730⟩, ⟨zb⟩⟩
                       ·rw [if_neg c109] at H
                        have c109b0 : decide (0 < t731) = false := decide_eq_false c109
                        clear c109
                        have H' := zh H
                        clear H
                        go_wp2
                        go_meet
                        case rel => exact ⟨_, (false), ze, H', ⟨by have := HJ5.out; have := HK2.out; have := HJ58.out; have := HK4.out; have := HJ66.out; first | omega | exact Nat.le_refl _⟩, ⟨by (with_reducible repeat (first | apply Kd.V_alloc | apply Kd.V_drewN | apply Kd.V_drew)); exact Kd.V_mono HO_1.out (fun _ hk => ⟨hk.1, hk.2.2⟩)⟩, ⟨zc BK730⟩, ⟨zb⟩⟩
                      ·rw [if_neg c108] at H
                       have c108b0 : (t783 == 0) = false := beq_eq_false_iff_ne.mpr c108
                       have c108b1 : (t783 != 0) = true := bne_iff_ne.mpr c108
                       (first | rw [c108b0] | rw [c108b1] | (simp only [i64_w, i32_w]; first | rw [c108b0] | rw [c108b1]) | skip)
                       have H' := zh H
                       clear H
                       go_wp2
                       go_meet
                       case rel => exact ⟨_, (true), ze, H', ⟨by have := HJ5.out; have := HK2.out; have := HJ58.out; have := HK4.out; have := HJ66.out; first | omega | exact Nat.le_refl _⟩, ⟨by (with_reducible repeat (first | apply Kd.V_alloc | apply Kd.V_drewN | apply Kd.V_drew)); exact Kd.V_mono HO_1.out (fun _ hk => ⟨hk.1, hk.2.2⟩)⟩, ⟨zc BK730⟩, ⟨zb⟩⟩
                     case rest =>
                      as_aux_lemma =>
                       clear HC104
                       try clear c1
                       try clear hx1
                       try clear c2
                       try clear p2
                       try clear c3
                       try clear c4
                       try clear c5
                       try clear c6
                       try clear p6
                       try clear c7
                       try clear p7
                       try clear q7
                       try clear hx7
                       try clear c8
                       try clear p8
                       try clear q8
                       try clear hx8
                       try clear hf8
                       try clear c9
                       try clear p9
                       try clear q9
                       try clear hx9
                       try clear hf9
                       try clear c10
                       try clear hx10
                       try clear hf10
                       try clear c22
                       try clear c35
                       try clear c35b0
                       try clear c36
                       try clear c42
                       try clear c44
                       try clear c45
                       try clear c45b0
                       try clear c46
                       try clear c47
                       try clear c48
                       try clear c49
                       try clear c53
                       try clear c53b0
                       try clear c53b1
                       try clear c60
                       try clear c60b0
                       try clear c61
                       try clear c61b0
                       try clear c62
                       try clear c63
                       try clear p64
                       try clear c68
                       try clear c68b0
                       try clear c69
                       try clear c72
                       try clear c72b0
                       try clear c73
                       try clear c73b0
                       try clear c74
                       try clear p74
                       try clear q74
                       try clear hx74
                       try clear c75
                       try clear c75b0
                       try clear c75b1
                       try clear p75
                       try clear q75
                       try clear hx75
                       try clear c76
                       try clear p76
                       try clear q76
                       try clear hx76
                       try clear c77
                       try clear p77
                       try clear q77
                       try clear hx77
                       try clear c78
                       try clear c78b0
                       try clear c79
                       try clear c79b0
                       try clear p80
                       try clear q80
                       try clear hx80
                       try clear hf80
                       try clear c82
                       try clear p82
                       try clear q82
                       try clear hx82
                       try clear hf82
                       try clear c91
                       try clear hx91
                       try clear hf91
                       try clear c94
                       try clear p94
                       try clear q94
                       try clear hx94
                       try clear hf94
                       try clear c101
                       try clear hx101
                       try clear hf101
                       try clear c108
                       try clear c108b0
                       try clear c108b1
                       try clear c109
                       try clear c109b0
                       try clear hcz105_0
                       try clear hcz105_1
                       try clear hcz105_2
                       try clear hcz105_3
                       try clear hfz105_0
                       try clear hfz105_1
                       try clear hfz105_2
                       try clear hfz105_3
                       try clear hx101_0
                       try clear hx101_1
                       try clear hx747_0
                       try clear hx747_1
                       try clear hx748_0
                       try clear hx749_0
                       try clear hx750_0
                       try clear hx750_1
                       try clear hx751_0
                       try clear hx763_0
                       try clear hx763_1
                       try clear hx770_0
                       try clear hx770_1
                       try clear hx776_0
                       try clear hx776_1
                       try clear hx80_0
                       try clear hx82_0
                       try clear hx82_1
                       try clear hx91_0
                       try clear hx91_1
                       try clear hx94_0
                       try clear hx94_1
                       try clear p2
                       try clear p6
                       try clear p64
                       try clear p7
                       try clear p747
                       try clear p748
                       try clear p749
                       try clear p750
                       try clear p751
                       try clear p763
                       try clear p770
                       try clear p776
                       try clear p80
                       try clear p82
                       try clear p94
                       try clear q7
                       try clear q747
                       try clear q748
                       try clear q749
                       try clear q750
                       try clear q751
                       try clear q763
                       try clear q770
                       try clear q776
                       try clear q80
                       try clear q82
                       try clear q94
                       obtain ⟨kq, x220_103, rfl, HA, HJ103, HO_1, BK730, HB⟩ := hcut
                       cases kq with
                       | zero => exact absurd HA.out (by simp [saronlaw06_KernelWrongly.j7])
                       | succ kj103 =>
                        have H := HA.out
                        clear HA
                        simp only [saronlaw06_KernelWrongly.j7] at H
                        by_cases c110 : x220_103 = true
                        ·subst c110
                         have H1 : (some false) = some r := by rw [if_pos rfl] at H; exact H
                         clear H
                         have H := H1
                         clear H1
                         exact absurd ((Option.some.inj H).trans HRT.out) (by decide)
                        ·replace c110 := Bool.eq_false_iff.mpr c110
                         subst c110
                         have H1 : ((saronref00_Nth.f l2 2).bind fun t784 => ((saronref00_Turn.f t784 (l1.length : Int)).bind fun t785 => ((some (([] : List (S60)) : List (S60))).bind fun y786 => (if y786.length + l1.length < 4398046511104 then ((some (y786 ++ l1 : List (S60))).bind fun y789 => ((some (([] : List Int) : List Int)).bind fun y792 => (if 0 ≤ t785 then (if t785 < (l1.length : Int) then (if y792.length + ((rd_T60 l1 t785).f1).length < 17592186044416 then ((some (y792 ++ ((rd_T60 l1 t785).f1) : List Int)).bind fun y796 => (if (y796.length : Int) > 0 then ((saronref00_Nth.f l2 3).bind fun t799 => ((saronref00_Turn.f t799 (y796.length : Int)).bind fun t800 => ((saronref00_Nth.f l2 4).bind fun t801 => ((saronref00_Turn.f t801 (wrap64 (a0_0 * a0_1))).bind fun t802 => (if 0 ≤ t800 then (if t800 < (y796.length : Int) then (saronlaw06_KernelWrongly.j8 kj103 l1 t731 t785 y789 (y796.set (t800 : Int).toNat t802) a0_0 a0_1 a0_2 l0_3) else (none)) else (none)))))) else (saronlaw06_KernelWrongly.j8 kj103 l1 t731 t785 y789 y796 a0_0 a0_1 a0_2 l0_3))) else (none)) else (none)) else (none)))) else (none))))) = some r := by rw [if_neg (show ¬ (false = true) by decide)] at H; exact H
                         clear H
                         have H := H1
                         clear H1
                         replace H := Option.bind_eq_some_iff.mp H
                         obtain ⟨t784, A1110, H⟩ := H
                         replace H : ((saronref00_Turn.f t784 (l1.length : Int)).bind fun t785 => ((some (([] : List (S60)) : List (S60))).bind fun y786 => (if y786.length + l1.length < 4398046511104 then ((some (y786 ++ l1 : List (S60))).bind fun y789 => ((some (([] : List Int) : List Int)).bind fun y792 => (if 0 ≤ t785 then (if t785 < (l1.length : Int) then (if y792.length + ((rd_T60 l1 t785).f1).length < 17592186044416 then ((some (y792 ++ ((rd_T60 l1 t785).f1) : List Int)).bind fun y796 => (if (y796.length : Int) > 0 then ((saronref00_Nth.f l2 3).bind fun t799 => ((saronref00_Turn.f t799 (y796.length : Int)).bind fun t800 => ((saronref00_Nth.f l2 4).bind fun t801 => ((saronref00_Turn.f t801 (wrap64 (a0_0 * a0_1))).bind fun t802 => (if 0 ≤ t800 then (if t800 < (y796.length : Int) then (saronlaw06_KernelWrongly.j8 kj103 l1 t731 t785 y789 (y796.set (t800 : Int).toNat t802) a0_0 a0_1 a0_2 l0_3) else (none)) else (none)))))) else (saronlaw06_KernelWrongly.j8 kj103 l1 t731 t785 y789 y796 a0_0 a0_1 a0_2 l0_3))) else (none)) else (none)) else (none)))) else (none)))) = some r := H
                         have A111 := zh A1110
                         clear A1110
                         replace H := Option.bind_eq_some_iff.mp H
                         obtain ⟨t785, A1120, H⟩ := H
                         replace H : ((some (([] : List (S60)) : List (S60))).bind fun y786 => (if y786.length + l1.length < 4398046511104 then ((some (y786 ++ l1 : List (S60))).bind fun y789 => ((some (([] : List Int) : List Int)).bind fun y792 => (if 0 ≤ t785 then (if t785 < (l1.length : Int) then (if y792.length + ((rd_T60 l1 t785).f1).length < 17592186044416 then ((some (y792 ++ ((rd_T60 l1 t785).f1) : List Int)).bind fun y796 => (if (y796.length : Int) > 0 then ((saronref00_Nth.f l2 3).bind fun t799 => ((saronref00_Turn.f t799 (y796.length : Int)).bind fun t800 => ((saronref00_Nth.f l2 4).bind fun t801 => ((saronref00_Turn.f t801 (wrap64 (a0_0 * a0_1))).bind fun t802 => (if 0 ≤ t800 then (if t800 < (y796.length : Int) then (saronlaw06_KernelWrongly.j8 kj103 l1 t731 t785 y789 (y796.set (t800 : Int).toNat t802) a0_0 a0_1 a0_2 l0_3) else (none)) else (none)))))) else (saronlaw06_KernelWrongly.j8 kj103 l1 t731 t785 y789 y796 a0_0 a0_1 a0_2 l0_3))) else (none)) else (none)) else (none)))) else (none))) = some r := H
                         have A112 := zh A1120
                         clear A1120
                         obtain ⟨y786, hy786⟩ : ∃ y_ : List (S60), y_ = (([] : List (S60))) := ⟨_, rfl⟩
                         replace H : (if y786.length + l1.length < 4398046511104 then ((some (y786 ++ l1 : List (S60))).bind fun y789 => ((some (([] : List Int) : List Int)).bind fun y792 => (if 0 ≤ t785 then (if t785 < (l1.length : Int) then (if y792.length + ((rd_T60 l1 t785).f1).length < 17592186044416 then ((some (y792 ++ ((rd_T60 l1 t785).f1) : List Int)).bind fun y796 => (if (y796.length : Int) > 0 then ((saronref00_Nth.f l2 3).bind fun t799 => ((saronref00_Turn.f t799 (y796.length : Int)).bind fun t800 => ((saronref00_Nth.f l2 4).bind fun t801 => ((saronref00_Turn.f t801 (wrap64 (a0_0 * a0_1))).bind fun t802 => (if 0 ≤ t800 then (if t800 < (y796.length : Int) then (saronlaw06_KernelWrongly.j8 kj103 l1 t731 t785 y789 (y796.set (t800 : Int).toNat t802) a0_0 a0_1 a0_2 l0_3) else (none)) else (none)))))) else (saronlaw06_KernelWrongly.j8 kj103 l1 t731 t785 y789 y796 a0_0 a0_1 a0_2 l0_3))) else (none)) else (none)) else (none)))) else (none)) = some r := by first | (rw [hy786]; with_reducible exact H) | (have H2_ := (Option.bind_some _ _).symm.trans H; rw [hy786]; with_reducible exact H2_) | (have H2_ := (Option.bind_some _ _).symm.trans H; with_reducible exact H2_) | with_reducible exact H | (rw [hy786]; exact H) | exact H
                         have Ny786 := zh hy786
                         clear hy786
                         by_cases c113 : y786.length + l1.length < 4398046511104
                         ·rw [if_pos c113] at H
                          have LMc113 := zh c113
                          clear c113
                          obtain ⟨y789, hy789⟩ : ∃ y_ : List (S60), y_ = (y786 ++ l1) := ⟨_, rfl⟩
                          replace H : ((some (([] : List Int) : List Int)).bind fun y792 => (if 0 ≤ t785 then (if t785 < (l1.length : Int) then (if y792.length + ((rd_T60 l1 t785).f1).length < 17592186044416 then ((some (y792 ++ ((rd_T60 l1 t785).f1) : List Int)).bind fun y796 => (if (y796.length : Int) > 0 then ((saronref00_Nth.f l2 3).bind fun t799 => ((saronref00_Turn.f t799 (y796.length : Int)).bind fun t800 => ((saronref00_Nth.f l2 4).bind fun t801 => ((saronref00_Turn.f t801 (wrap64 (a0_0 * a0_1))).bind fun t802 => (if 0 ≤ t800 then (if t800 < (y796.length : Int) then (saronlaw06_KernelWrongly.j8 kj103 l1 t731 t785 y789 (y796.set (t800 : Int).toNat t802) a0_0 a0_1 a0_2 l0_3) else (none)) else (none)))))) else (saronlaw06_KernelWrongly.j8 kj103 l1 t731 t785 y789 y796 a0_0 a0_1 a0_2 l0_3))) else (none)) else (none)) else (none))) = some r := by first | (rw [hy789]; with_reducible exact H) | (have H2_ := (Option.bind_some _ _).symm.trans H; rw [hy789]; with_reducible exact H2_) | (have H2_ := (Option.bind_some _ _).symm.trans H; with_reducible exact H2_) | with_reducible exact H | (rw [hy789]; exact H) | exact H
                          have Ny789 := zh hy789
                          clear hy789
                          obtain ⟨y792, hy792⟩ : ∃ y_ : List Int, y_ = (([] : List Int)) := ⟨_, rfl⟩
                          replace H : (if 0 ≤ t785 then (if t785 < (l1.length : Int) then (if y792.length + ((rd_T60 l1 t785).f1).length < 17592186044416 then ((some (y792 ++ ((rd_T60 l1 t785).f1) : List Int)).bind fun y796 => (if (y796.length : Int) > 0 then ((saronref00_Nth.f l2 3).bind fun t799 => ((saronref00_Turn.f t799 (y796.length : Int)).bind fun t800 => ((saronref00_Nth.f l2 4).bind fun t801 => ((saronref00_Turn.f t801 (wrap64 (a0_0 * a0_1))).bind fun t802 => (if 0 ≤ t800 then (if t800 < (y796.length : Int) then (saronlaw06_KernelWrongly.j8 kj103 l1 t731 t785 y789 (y796.set (t800 : Int).toNat t802) a0_0 a0_1 a0_2 l0_3) else (none)) else (none)))))) else (saronlaw06_KernelWrongly.j8 kj103 l1 t731 t785 y789 y796 a0_0 a0_1 a0_2 l0_3))) else (none)) else (none)) else (none)) = some r := by first | (rw [hy792]; with_reducible exact H) | (have H2_ := (Option.bind_some _ _).symm.trans H; rw [hy792]; with_reducible exact H2_) | (have H2_ := (Option.bind_some _ _).symm.trans H; with_reducible exact H2_) | with_reducible exact H | (rw [hy792]; exact H) | exact H
                          have Ny792 := zh hy792
                          clear hy792
                          by_cases c114 : 0 ≤ t785
                          ·rw [if_pos c114] at H
                           have c114b0 : decide (0 ≤ t785) = true := decide_eq_true c114
                           clear c114
                           by_cases c115 : t785 < (l1.length : Int)
                           ·rw [if_pos c115] at H
                            have c115b0 : decide (t785 < (l1.length : Int)) = true := decide_eq_true c115
                            clear c115
                            by_cases c116 : y792.length + ((rd_T60 l1 t785).f1).length < 17592186044416
                            ·rw [if_pos c116] at H
                             have LMc116 := zh c116
                             clear c116
                             obtain ⟨y796, hy796⟩ : ∃ y_ : List Int, y_ = (y792 ++ ((rd_T60 l1 t785).f1)) := ⟨_, rfl⟩
                             replace H : (if (y796.length : Int) > 0 then ((saronref00_Nth.f l2 3).bind fun t799 => ((saronref00_Turn.f t799 (y796.length : Int)).bind fun t800 => ((saronref00_Nth.f l2 4).bind fun t801 => ((saronref00_Turn.f t801 (wrap64 (a0_0 * a0_1))).bind fun t802 => (if 0 ≤ t800 then (if t800 < (y796.length : Int) then (saronlaw06_KernelWrongly.j8 kj103 l1 t731 t785 y789 (y796.set (t800 : Int).toNat t802) a0_0 a0_1 a0_2 l0_3) else (none)) else (none)))))) else (saronlaw06_KernelWrongly.j8 kj103 l1 t731 t785 y789 y796 a0_0 a0_1 a0_2 l0_3)) = some r := by first | (rw [hy796]; with_reducible exact H) | (have H2_ := (Option.bind_some _ _).symm.trans H; rw [hy796]; with_reducible exact H2_) | (have H2_ := (Option.bind_some _ _).symm.trans H; with_reducible exact H2_) | with_reducible exact H | (rw [hy796]; exact H) | exact H
                             have Ny796 := zh hy796
                             clear hy796
                             have HC117 := zh H
                             clear H
                             go_upto_if 238 with (first | ((with_reducible refine gate_callee (f := 47) rfl ?_); refine goesL_ (some 222) rfl rfl Tryd.func47 zk rfl #[.slice A2 l2.length c2, .int .i64 2] rfl zm ?_; (with_reducible refine (saronref00_Nth.calls _ _ l2 2 t784 _ ?side1 ?side2 A111.out).mono ?_); (case side1 => repeat (first | exact (Kd.C_below HR2.out HB.out) | (with_reducible refine Kd.C_alloc ?_ _) | (with_reducible refine Kd.C_drewN ?_ _) | (with_reducible refine Kd.C_drew ?_))); (case side2 => exact HC2.out); rintro e w' ⟨rfl, ⟨nd, rfl⟩⟩; refine ⟨_, rfl, ?_⟩) | ((with_reducible refine gate_callee (f := 42) rfl ?_); refine goesL_ (some 225) rfl rfl Tryd.func42 zk rfl #[.int .i64 t784, .int .i64 (l1.length : Int)] rfl zm ?_; (with_reducible refine (saronref00_Turn.calls t784 (l1.length : Int) t785 _ A112.out).mono ?_); rintro e w' ⟨rfl, ⟨nd, rfl⟩⟩; refine ⟨_, rfl, ?_⟩) | ((with_reducible refine gate_dst (N := 226) rfl ?_); (try (refine gate_guard (by rfl) ?_; dsimp only)); refine Kd.N_lit k60 _ 60 ?hg (N' := 226) ?hd (xs := ([] : List (S60))) (inner := []) (ok := (fun k_ => (P1_ k_ ∨ w.heap.size ≤ k_) ∧ k_ ≠ gb730)) (okp := (fun k_ => (P1_ k_ ∨ w.heap.size ≤ k_) ∧ k_ ≠ gb730)) ?hr ?hp (fun _ hk => hk) ((show ∀ k_, wc.heap.size ≤ k_ → (fun k_ => (P1_ k_ ∨ w.heap.size ≤ k_) ∧ k_ ≠ gb730) k_ from fun k_ hk => ⟨(.inr (Nat.le_trans (below_size zb) hk)), Kd.freshB (g := gb730) (o := .cells #[.int .i64 a0_0, .int .i64 a0_1, .int .i64 a0_2, .slice A0_3 l0_3.length c0_3] 24 (0, 0)) (zc BK730) k_ hk⟩) _ (Nat.le_refl _)) (Below.refl _ _) (Nat.le_refl _) (by simp) ?_; (case hd => rfl); (case hg => rfl); (case hr => first | (go_simp; done) | (go_simp; rfl)); (case hp => exact (Reps.none _ _)); intro v787 w118 ho119 hb hg_ hnew_; clear hg_ hnew_; (first | rw [← Ny786.out] at ho119 | (simp only [Int.reduceToNat] at ho119; rw [← Ny786.out] at ho119)); have n0_ := zh (Kd.V_elder' (zV HO_1) (Kd.N_base ho119) hb); have n1_ := zh (Kd.N_lower ho119 (below_size zb)); have n2_ := zh (blk_below (g := gb730) (o := .cells #[.int .i64 a0_0, .int .i64 a0_1, .int .i64 a0_2, .slice A0_3 l0_3.length c0_3] 24 (0, 0)) (zc BK730) hb); have n3_ := zh (below_step zb hb); clear HO_1; clear BK730; clear HB; have HO_1 := n0_; have HO788 := n1_; have BK730 := n2_; have HB := n3_; clear n0_ n1_ n2_ n3_; clear hb ho119) | ((with_reducible refine gate_builtin (b := .append) (xs := #[.tmp 226, .tmp 227]) rfl ?_); (try (refine gate_guard (by rfl) ?_; dsimp only)); at_builtin; refine Kd.N_append_rows k60 (w0 := w) w.heap.size rfl (.tmp 226) (.tmp 227) 33 60 (.agg #[(.int .i64 0), (.slice none 0 0)]) 32 rfl Tryd.underlying33 info60 rfl (by decide) (by omega) v787 y786 l1 _ _ _ (fun k_ => (P1_ k_ ∨ w.heap.size ≤ k_) ∧ k_ ≠ gb730) (fun k_ => ((fun k_ => (P1_ k_ ∨ w.heap.size ≤ k_) ∧ k_ ≠ gb730)) k_ ∧ some k_ ≠ (v787 : Value).ownBlock) rfl rfl ?aO ?aR (fun _ hk => hk) ?aF ?aB ?aS ?aL ?_; (case aR => exact (by skip; exact Kd.V_F (Kd.V_mono (ok' := (fun k_ => ((fun k_ => (P1_ k_ ∨ w.heap.size ≤ k_) ∧ k_ ≠ gb730)) k_ ∧ some k_ ≠ (v787 : Value).ownBlock)) (HO_1.out) (fun k_ hk => ⟨⟨hk.1.1, hk.1.2⟩, hk.2⟩)))); (case aB => exact zb); (case aF => exact (fun k_ hk => ⟨(.inr (Nat.le_trans (below_size zb) hk)), Kd.freshB (g := gb730) (o := .cells #[.int .i64 a0_0, .int .i64 a0_1, .int .i64 a0_2, .slice A0_3 l0_3.length c0_3] 24 (0, 0)) (zc BK730) k_ hk⟩)); (case aO => exact (zN HO788)); (case aS => exact (below_size zb)); (case aL => have := LMc113.out; omega); intro v790 w120 ho hb hg hat; rw [← Ny789.out] at ho; have n0_ := zh (Kd.V_afterv (ok := (fun k_ => (P1_ k_ ∨ w.heap.size ≤ k_) ∧ k_ ≠ gb730)) (zV HO_1) hg hat); have n1_ := zh (blk_grown (g := gb730) (o := .cells #[.int .i64 a0_0, .int .i64 a0_1, .int .i64 a0_2, .slice A0_3 l0_3.length c0_3] 24 (0, 0)) (zc BK730) hg (Kd.N_ne HO788.out BK730.out (by decide))); have n2_ := zh (hb); have n3_ := zh (ho); clear HO_1; clear BK730; clear HB; clear HO788; have HO_1 := n0_; have BK730 := n1_; have HB := n2_; have HO791 := n3_; clear n0_ n1_ n2_ n3_; clear ho hb hg hat) | ((with_reducible refine gate_dst (N := 229) rfl ?_); (try (refine gate_guard (by rfl) ?_; dsimp only)); refine Kd.R_lit (Kd.int .i64) _ 3 ?hg (N := 229) ?hd (xs := ([] : List Int)) (inner := []) (ok := fun _ => True) (okp := fun _ => True) ?hr ?hp (fun _ hk => hk) trivial (Below.refl _ _) (Nat.le_refl _) (by simp) ?_; (case hd => rfl); (case hg => rfl); (case hr => first | (go_simp; done) | (go_simp; rfl)); (case hp => exact (Reps.none _ _)); intro v793 w121 ho122 hb hg_ hnew_; clear hg_ hnew_; (first | rw [← Ny792.out] at ho122 | (simp only [Int.reduceToNat] at ho122; rw [← Ny792.out] at ho122)); have n0_ := zh (Kd.V_elder' (zV HO_1) (Kd.R_base ho122) hb); have n1_ := zh (Kd.N_elder' (zN HO791) (Kd.R_base ho122) hb); have n2_ := zh (Kd.R_lower (Kd.R_newM (M := fun k_ => (w.heap.size ≤ k_)) ho122 (below_size zb) (fun k_ h_ => h_)) (below_size zb)); have n3_ := zh (blk_below (g := gb730) (o := .cells #[.int .i64 a0_0, .int .i64 a0_1, .int .i64 a0_2, .slice A0_3 l0_3.length c0_3] 24 (0, 0)) (zc BK730) hb); have n4_ := zh (below_step zb hb); clear HO_1; clear HO791; clear BK730; clear HB; have HO_1 := n0_; have HO791 := n1_; have HO794 := n2_; have BK730 := n3_; have HB := n4_; clear n0_ n1_ n2_ n3_ n4_; clear hb ho122; have p795 : 0 ≤ (t785 : Int) := of_decide_eq_true zs; have q795 : t785 < (l1.length : Int) := of_decide_eq_true zs; obtain ⟨ad795, A795_1, c795_1, e795, hx795_0, hx795_1, hl795_1, hi795_1⟩ := at_T60 (Kd.V_reads' HO_1.out).2.2 t785 p795 q795; cases e795; obtain ⟨ce795, hce795, hMe795, hcc795⟩ := Kd.V_get HO_1.out z60 t785 p795 (by first | exact q795 | exact of_decide_eq_true zs | (have e_ := (Kd.V_reads' HO_1.out).1; omega)); obtain ⟨ua795_1, uc795_1, rfl, ul795_1, ge795_1⟩ := k60_openF hMe795; have hv795_1 := hcc795 1 _ rfl; rw [add_field _ _ 1 (by omega)] at hv795_1; replace hv795_1 := Option.some.inj (hv795_1.symm.trans hx795_1); injection hv795_1 with hva_ hvn_ hvc_; rw [hva_] at ge795_1; rw [hvc_] at ul795_1; have HL795_1 := zh (show Kd.V (Kd.int .i64) 3 _ w.heap.size _ _ ((rd_T60 l1 t785).f1) from Kd.V_mk ul795_1 ge795_1); clear hva_ hvn_ hvc_ ge795_1 ul795_1; clear hcc795 hce795; have HR795_1 := zh hi795_1; have HC795_1 := zh hl795_1; clear hi795_1 hl795_1; replace p795 := eq_true p795; replace q795 := eq_true q795) | ((with_reducible refine gate_builtin (b := .append) (xs := #[.tmp 229, .tmp 234]) rfl ?_); (try (refine gate_guard (by rfl) ?_; dsimp only)); at_builtin; refine Kd.R_append_rows (Kd.int .i64) (w0 := w) w.heap.size rfl (.tmp 229) (.tmp 234) 25 3 (.int .i64 0) 8 rfl Tryd.underlying25 info3 rfl (by decide) (by omega) v793 y792 ((rd_T60 l1 t785).f1) _ _ _ (fun k_ => (w.heap.size ≤ k_)) (fun _ => False) rfl rfl ?aO ?aR (fun _ _ h => h) (fun _ h => h.elim) ?aF ?aB ?aS ?aL ?_; (case aR => repeat (first | exact (by repeat (first | (with_reducible exact HR795_1.out) | (with_reducible refine Kd.C_alloc ?_ _) | (with_reducible refine Kd.C_drewN ?_ _) | (with_reducible refine Kd.C_drew ?_) | exact HR795_1.out)) | (with_reducible refine Kd.C_alloc ?_ _) | (with_reducible refine Kd.C_drewN ?_ _) | (with_reducible refine Kd.C_drew ?_))); (case aB => exact zb); (case aF => exact (fun k_ hk => (Nat.le_trans (below_size zb) hk))); (case aO => exact (by (with_reducible repeat (first | apply Kd.R_alloc | apply Kd.R_drewN | apply Kd.R_drew)); exact Kd.R_mono HO794.out (fun _ hk => hk.1))); (case aS => exact (below_size zb)); (case aL => have := LMc116.out; omega); intro v797 w123 ho hb hg hat; rw [← Ny796.out] at ho; have n0_ := zh (Kd.V_afterv (ok := (fun k_ => (P1_ k_ ∨ w.heap.size ≤ k_) ∧ some k_ ≠ (v790 : Value).ownBlock ∧ k_ ≠ gb730)) (by (with_reducible repeat (first | apply Kd.V_alloc | apply Kd.V_drewN | apply Kd.V_drew)); exact Kd.V_mono HO_1.out (fun _ hk => ⟨⟨hk.1.1.1, ⟨hk.1.2, hk.1.1.2⟩⟩, hk.2⟩)) hg hat); have n1_ := zh (blk_grown (g := gb730) (o := .cells #[.int .i64 a0_0, .int .i64 a0_1, .int .i64 a0_2, .slice A0_3 l0_3.length c0_3] 24 (0, 0)) (zc BK730) hg (Kd.R_ne HO794.out BK730.out (by decide))); have n2_ := zh (Kd.N_afterv (ok := (fun k_ => (P1_ k_ ∨ w.heap.size ≤ k_) ∧ k_ ≠ gb730)) (zN HO791) hg hat); have n3_ := zh (Kd.V_afterv (ok := (fun k_ => (P1_ k_ ∨ w.heap.size ≤ k_) ∧ some k_ ≠ (v790 : Value).ownBlock ∧ k_ ≠ gb730)) (by (with_reducible repeat (first | apply Kd.V_alloc | apply Kd.V_drewN | apply Kd.V_drew)); exact Kd.V_mono HL795_1.out (fun _ hk => ⟨⟨hk.1.1.1, ⟨hk.1.2, hk.1.1.2⟩⟩, hk.2⟩)) hg hat); have n4_ := zh (hb); have n5_ := zh (ho); clear HO_1; clear BK730; clear HO791; clear HL795_1; clear HB; clear HO794; have HO_1 := n0_; have BK730 := n1_; have HO791 := n2_; have HL795_1 := n3_; have HB := n4_; have HO798 := n5_; clear n0_ n1_ n2_ n3_ n4_ n5_; clear ho hb hg hat; obtain ⟨Ao124, co124, eo124⟩ := Kd.R_slice HO798.out; subst eo124))
                             (try simp only [Act.put, List.setIfInBounds_toArray, List.set_cons_zero, List.set_cons_succ])
                             go_cut [] (fun wc => ∃ (kq : Nat) (x25_116 : List Int), Aside0 (saronlaw06_KernelWrongly.j8 kq l1 t731 t785 y789 x25_116 a0_0 a0_1 a0_2 l0_3 = some r) ∧ Aside0 (kq ≤ kj103) ∧ Aside0 (Kd.V k60 60 wc w.heap.size (fun k_ => (P1_ k_ ∨ w.heap.size ≤ k_) ∧ some k_ ≠ (v790 : Value).ownBlock ∧ some k_ ≠ ((.slice Ao124 y796.length co124) : Value).ownBlock ∧ k_ ≠ gb730) (.slice (some ad795) l1.length c1) l1) ∧ Aside0 (Kd.N k60 60 wc w.heap.size (fun k_ => (P1_ k_ ∨ w.heap.size ≤ k_) ∧ some k_ ≠ ((.slice Ao124 y796.length co124) : Value).ownBlock ∧ k_ ≠ gb730) v790 y789) ∧ Aside0 (Kd.R (Kd.int .i64) 3 wc w.heap.size (fun k_ => (w.heap.size ≤ k_)) (.slice Ao124 y796.length co124) x25_116) ∧ Aside0 (wc.heap[gb730]? = some (.cells #[.int .i64 a0_0, .int .i64 a0_1, .int .i64 a0_2, (.slice A0_3 l0_3.length c0_3)] 24 (0, 0))) ∧ Aside0 (Below w.heap.size w wc))
                             case first =>
                              as_aux_lemma =>
                               have H := HC117.out
                               clear HC117
                               by_cases c125 : (y796.length : Int) > 0
                               ·rw [if_pos c125] at H
                                have c125b0 : decide (0 < (y796.length : Int)) = true := decide_eq_true c125
                                have c125b1 : decide (0 < y796.length) = true := decide_eq_true (by omega)
                                clear c125
                                (first | rw [c125b0] | rw [c125b1] | (simp only [i64_w, i32_w]; first | rw [c125b0] | rw [c125b1]) | skip)
                                replace H := Option.bind_eq_some_iff.mp H
                                obtain ⟨t799, A1260, H⟩ := H
                                replace H : ((saronref00_Turn.f t799 (y796.length : Int)).bind fun t800 => ((saronref00_Nth.f l2 4).bind fun t801 => ((saronref00_Turn.f t801 (wrap64 (a0_0 * a0_1))).bind fun t802 => (if 0 ≤ t800 then (if t800 < (y796.length : Int) then (saronlaw06_KernelWrongly.j8 kj103 l1 t731 t785 y789 (y796.set (t800 : Int).toNat t802) a0_0 a0_1 a0_2 l0_3) else (none)) else (none))))) = some r := H
                                have A126 := zh A1260
                                clear A1260
                                replace H := Option.bind_eq_some_iff.mp H
                                obtain ⟨t800, A1270, H⟩ := H
                                replace H : ((saronref00_Nth.f l2 4).bind fun t801 => ((saronref00_Turn.f t801 (wrap64 (a0_0 * a0_1))).bind fun t802 => (if 0 ≤ t800 then (if t800 < (y796.length : Int) then (saronlaw06_KernelWrongly.j8 kj103 l1 t731 t785 y789 (y796.set (t800 : Int).toNat t802) a0_0 a0_1 a0_2 l0_3) else (none)) else (none)))) = some r := H
                                have A127 := zh A1270
                                clear A1270
                                replace H := Option.bind_eq_some_iff.mp H
                                obtain ⟨t801, A1280, H⟩ := H
                                replace H : ((saronref00_Turn.f t801 (wrap64 (a0_0 * a0_1))).bind fun t802 => (if 0 ≤ t800 then (if t800 < (y796.length : Int) then (saronlaw06_KernelWrongly.j8 kj103 l1 t731 t785 y789 (y796.set (t800 : Int).toNat t802) a0_0 a0_1 a0_2 l0_3) else (none)) else (none))) = some r := H
                                have A128 := zh A1280
                                clear A1280
                                replace H := Option.bind_eq_some_iff.mp H
                                obtain ⟨t802, A1290, H⟩ := H
                                replace H : (if 0 ≤ t800 then (if t800 < (y796.length : Int) then (saronlaw06_KernelWrongly.j8 kj103 l1 t731 t785 y789 (y796.set (t800 : Int).toNat t802) a0_0 a0_1 a0_2 l0_3) else (none)) else (none)) = some r := H
                                have A129 := zh A1290
                                clear A1290
                                by_cases c130 : 0 ≤ t800
                                ·rw [if_pos c130] at H
                                 have c130b0 : decide (0 ≤ t800) = true := decide_eq_true c130
                                 clear c130
                                 by_cases c131 : t800 < (y796.length : Int)
                                 ·rw [if_pos c131] at H
                                  have c131b0 : decide (t800 < (y796.length : Int)) = true := decide_eq_true c131
                                  clear c131
                                  obtain ⟨y803, hy803⟩ : ∃ y_ : List Int, y_ = (y796.set (t800 : Int).toNat t802) := ⟨_, rfl⟩
                                  replace H : (saronlaw06_KernelWrongly.j8 kj103 l1 t731 t785 y789 y803 a0_0 a0_1 a0_2 l0_3) = some r := by first | (rw [hy803]; with_reducible exact H) | (have H2_ := (Option.bind_some _ _).symm.trans H; rw [hy803]; with_reducible exact H2_) | (have H2_ := (Option.bind_some _ _).symm.trans H; with_reducible exact H2_) | with_reducible exact H | (rw [hy803]; exact H) | exact H
                                  have Ny803 := zh hy803
                                  clear hy803
                                  have H' := zh H
                                  clear H
                                  try go_wp2
                                  replace HO_1 := zh (Kd.V_drew HO_1.out)
                                  replace HO791 := zh (Kd.N_drew HO791.out)
                                  replace HL795_1 := zh (Kd.V_drew HL795_1.out)
                                  replace HO798 := zh (Kd.R_drew HO798.out)
                                  replace BK730 := zh (blk_drew BK730.out)
                                  replace HB := zh (below_drew1 HB.out)
                                  refine start_ (n := 16) (S := fun w' => w'.cell? ⟨gb730, 0, none⟩ = some (.int .i64 a0_0) ∧ w'.cell? ⟨gb730, 1, none⟩ = some (.int .i64 a0_1) ∧ w'.cell? ⟨gb730, 2, none⟩ = some (.int .i64 a0_2) ∧ w'.cell? ⟨gb730, 3, none⟩ = some (.slice A0_3 l0_3.length c0_3)) (ds := [15]) #[false, false, false, false, false, false, false, false, false, false, false, false, false, false, false, false] zk rfl rfl ⟨vb BK730 0, vb BK730 1, vb BK730 2, vb BK730 3⟩ (fun hHeld => ?_); refine with_tabW saronlaw06_KernelWrongly.tab35 saronlaw06_KernelWrongly.bits35 (fun HT_ HW_ => ?_)
                                  generalize w123.drew = w133 at HO_1 HO791 HL795_1 HO798 BK730 HB hHeld ⊢
                                  refine zu 0 ?_
                                  refine zu 1 ?_
                                  refine zu 3 ?_
                                  refine zu 4 ?_
                                  refine zu 6 ?_
                                  refine zu 8 ?_
                                  refine zu 10 ?_
                                  refine zt 9 ?_
                                  refine zt 11 ?_
                                  refine zu 12 ?_
                                  refine zo 2 (fun K hK => ?_)
                                  refine goes_ Tryd.func47 zk rfl #[.slice A2 l2.length c2, .int .i64 3] (by rfl) rfl rfl zm ?_
                                  with_reducible refine (saronref00_Nth.calls _ _ l2 3 t799 _ ?side1 ?side2 A126.out).mono ?_
                                  (case side1 => repeat (first | exact (Kd.C_below HR2.out HB.out) | (with_reducible refine Kd.C_alloc ?_ _) | (with_reducible refine Kd.C_drewN ?_ _) | (with_reducible refine Kd.C_drew ?_)))
                                  (case side2 => exact HC2.out)
                                  rintro e w' ⟨rfl, ⟨nd, rfl⟩⟩
                                  refine ⟨_, rfl, ?_⟩
                                  refine hK.out _ _ ⟨vb BK730 0, vb BK730 1, vb BK730 2, vb BK730 3⟩ (fun hHeld => ?_)
                                  clear hK K
                                  refine zr 241 _ ?_
                                  refine zo 5 (fun K hK => ?_)
                                  refine goes_ Tryd.func42 zk rfl #[.int .i64 t799, .int .i64 (y796.length : Int)] (by rfl) rfl rfl zm ?_
                                  with_reducible refine (saronref00_Turn.calls t799 (y796.length : Int) t800 _ A127.out).mono ?_
                                  rintro e w' ⟨rfl, ⟨nd, rfl⟩⟩
                                  refine ⟨_, rfl, ?_⟩
                                  refine hK.out _ _ ⟨vb BK730 0, vb BK730 1, vb BK730 2, vb BK730 3⟩ (fun hHeld => ?_)
                                  clear hK K
                                  refine zr 244 _ ?_
                                  refine zo 7 (fun K hK => ?_)
                                  refine goes_ Tryd.func47 zk rfl #[.slice A2 l2.length c2, .int .i64 4] (by rfl) rfl rfl zm ?_
                                  with_reducible refine (saronref00_Nth.calls _ _ l2 4 t801 _ ?side1 ?side2 A128.out).mono ?_
                                  (case side1 => repeat (first | exact (Kd.C_below HR2.out zb) | (with_reducible refine Kd.C_alloc ?_ _) | (with_reducible refine Kd.C_drewN ?_ _) | (with_reducible refine Kd.C_drew ?_)))
                                  (case side2 => exact HC2.out)
                                  rintro e w' ⟨rfl, ⟨nd, rfl⟩⟩
                                  refine ⟨_, rfl, ?_⟩
                                  refine hK.out _ _ ⟨vb BK730 0, vb BK730 1, vb BK730 2, vb BK730 3⟩ (fun hHeld => ?_)
                                  clear hK K
                                  refine zr 246 _ ?_
                                  refine zo 13 (fun K hK => ?_)
                                  refine goes_ Tryd.func42 zk rfl #[.int .i64 t801, .int .i64 (wrap64 (a0_0 * a0_1))] (by rfl) rfl rfl zm ?_
                                  with_reducible refine (saronref00_Turn.calls t801 (wrap64 (a0_0 * a0_1)) t802 _ A129.out).mono ?_
                                  rintro e w' ⟨rfl, ⟨nd, rfl⟩⟩
                                  refine ⟨_, rfl, ?_⟩
                                  have p132 : 0 ≤ (t800 : Int) := of_decide_eq_true zs
                                  have q132 : (t800 : Int) < ((y796.length : Int) : Int) := of_decide_eq_true zs
                                  obtain ⟨go132, co132, eo132, gb132, gl132, cl132, HG132⟩ := Kd.R_form HO798.out (by omega)
                                  (first | cases eo132 | (injection eo132 with ea_ en_ ec_; (first | subst ea_ | (injection ea_ with ea_; subst ea_)); subst ec_; clear en_))
                                  have GB132 := zh gb132
                                  have GG132 := zh HG132
                                  clear gb132 gl132 HG132
                                  obtain ⟨hx132_0, hf132_0⟩ := Kd.R_celln 0 HO798.out (t800 : Int) p132 q132
                                  replace p132 := eq_true p132
                                  replace q132 := eq_true q132
                                  have HP134 := Kd.R_putn HO798.out (t800 : Int) t802
                                  rw [← Ny803.out] at HP134
                                  have HQ134 := zh HP134
                                  clear HP134
                                  refine hK.out _ _ ⟨vb BK730 0, vb BK730 1, vb BK730 2, vb BK730 3⟩ (fun hHeld => ?_)
                                  clear hK K
                                  refine zr 252 _ ?_
                                  refine zu 14 ?_
                                  refine zq 15 (fun K hK => ?_)
                                  refine skip_ (w1 := ?_) (by rfl) rfl ?_ ?_
                                  rotate_left
                                  ·go_simp
                                   rfl
                                  refine hK.out _ _ ?_
                                  clear hK K
                                  refine zd ?_
                                  try go_wp2
                                  go_meet
                                  case rel => exact ⟨_, (y803), H', ⟨by have := HJ5.out; have := HK2.out; have := HJ58.out; have := HK4.out; have := HJ66.out; have := HJ103.out; first | omega | exact Nat.le_refl _⟩, ⟨by (with_reducible repeat (first | apply Kd.V_alloc | apply Kd.V_drewN | apply Kd.V_drew)); exact Kd.V_mono (Kd.V_far (p := ⟨go132, (t800 : Int).toNat, none⟩) (Kd.V_mono HO_1.out (fun k_ hk => (⟨hk, fun e_ => hk.2 (by rw [e_]; rfl)⟩ : _ ∧ k_ ≠ go132))) (fun _ hk => hk.2) (.int .i64 t802)) (fun _ hk => ⟨hk.1.1.1, ⟨hk.1.1.2.1, ⟨hk.1.2, hk.1.1.2.2⟩⟩⟩)⟩, ⟨by (with_reducible repeat (first | apply Kd.N_alloc | apply Kd.N_drewN | apply Kd.N_drew)); exact Kd.N_mono (Kd.N_far (p := ⟨go132, (t800 : Int).toNat, none⟩) (Kd.N_mono HO791.out (fun k_ hk => (⟨hk, fun e_ => hk.2 (by rw [e_]; rfl)⟩ : _ ∧ k_ ≠ go132))) (fun _ hk => hk.2) (.int .i64 t802)) (fun _ hk => ⟨hk.1.1.1, ⟨hk.1.2, hk.1.1.2⟩⟩)⟩, ⟨by (with_reducible repeat (first | apply Kd.R_alloc | apply Kd.R_drewN | apply Kd.R_drew)); exact HQ134.out⟩, ⟨by (with_reducible repeat (first | refine blk_drewN ?_ _ | refine blk_drew ?_ | refine blk_alloc ?_ _)); refine blk_far ?_ (by have h_ := Kd.R_ne HO798.out BK730.out (by decide); intro e_; exact h_ (by rw [e_]; rfl)) _; (with_reducible repeat (first | refine blk_drewN ?_ _ | refine blk_drew ?_ | refine blk_alloc ?_ _)); exact BK730.out⟩, ⟨zb⟩⟩
                                 ·rw [if_neg c131] at H
                                  exact absurd H (by simp)
                                ·rw [if_neg c130] at H
                                 exact absurd H (by simp)
                               ·rw [if_neg c125] at H
                                have c125b0 : decide (0 < (y796.length : Int)) = false := decide_eq_false c125
                                have c125b1 : decide (0 < y796.length) = false := decide_eq_false (by omega)
                                clear c125
                                (first | rw [c125b0] | rw [c125b1] | (simp only [i64_w, i32_w]; first | rw [c125b0] | rw [c125b1]) | skip)
                                have H' := zh H
                                clear H
                                go_wp2
                                go_meet
                                case rel => exact ⟨_, (y796), H', ⟨by have := HJ5.out; have := HK2.out; have := HJ58.out; have := HK4.out; have := HJ66.out; have := HJ103.out; first | omega | exact Nat.le_refl _⟩, ⟨by (with_reducible repeat (first | apply Kd.V_alloc | apply Kd.V_drewN | apply Kd.V_drew)); exact Kd.V_mono HO_1.out (fun _ hk => ⟨hk.1.1, ⟨hk.1.2.1, ⟨hk.2, hk.1.2.2⟩⟩⟩)⟩, ⟨by (with_reducible repeat (first | apply Kd.N_alloc | apply Kd.N_drewN | apply Kd.N_drew)); exact Kd.N_mono HO791.out (fun _ hk => ⟨hk.1.1, ⟨hk.2, hk.1.2⟩⟩)⟩, ⟨zR HO798⟩, ⟨zc BK730⟩, ⟨zb⟩⟩
                             case rest =>
                              as_aux_lemma =>
                               clear HC117
                               try clear c1
                               try clear p1
                               try clear q1
                               try clear hx1
                               try clear c2
                               try clear p2
                               try clear c3
                               try clear c4
                               try clear c5
                               try clear c6
                               try clear p6
                               try clear c7
                               try clear p7
                               try clear q7
                               try clear hx7
                               try clear c8
                               try clear p8
                               try clear q8
                               try clear hx8
                               try clear hf8
                               try clear c9
                               try clear p9
                               try clear q9
                               try clear hx9
                               try clear hf9
                               try clear c10
                               try clear hx10
                               try clear hf10
                               try clear c11
                               try clear c12
                               try clear c13
                               try clear p13
                               try clear q13
                               try clear hx13
                               try clear hf13
                               try clear c22
                               try clear c35
                               try clear c35b0
                               try clear c36
                               try clear c42
                               try clear c44
                               try clear c45
                               try clear c45b0
                               try clear c46
                               try clear c47
                               try clear c48
                               try clear c49
                               try clear c53
                               try clear c53b0
                               try clear c53b1
                               try clear c60
                               try clear c60b0
                               try clear c61
                               try clear c61b0
                               try clear c62
                               try clear c63
                               try clear p64
                               try clear c68
                               try clear c68b0
                               try clear c69
                               try clear c72
                               try clear c72b0
                               try clear c73
                               try clear c73b0
                               try clear c74
                               try clear p74
                               try clear q74
                               try clear hx74
                               try clear c75
                               try clear c75b0
                               try clear c75b1
                               try clear p75
                               try clear q75
                               try clear hx75
                               try clear c76
                               try clear p76
                               try clear q76
                               try clear hx76
                               try clear c77
                               try clear p77
                               try clear q77
                               try clear hx77
                               try clear c78
                               try clear c78b0
                               try clear c79
                               try clear c79b0
                               try clear p79
                               try clear q79
                               try clear hx79
                               try clear p80
                               try clear q80
                               try clear hx80
                               try clear hf80
                               try clear c82
                               try clear p82
                               try clear q82
                               try clear hx82
                               try clear hf82
                               try clear c91
                               try clear hx91
                               try clear hf91
                               try clear c94
                               try clear p94
                               try clear q94
                               try clear hx94
                               try clear hf94
                               try clear c101
                               try clear hx101
                               try clear hf101
                               try clear c108
                               try clear c108b0
                               try clear c108b1
                               try clear c109
                               try clear c109b0
                               try clear c110
                               try clear c113
                               try clear c114
                               try clear c114b0
                               try clear c115
                               try clear c115b0
                               try clear c116
                               try clear c125
                               try clear c125b0
                               try clear c125b1
                               try clear c130
                               try clear c130b0
                               try clear c131
                               try clear c131b0
                               try clear p132
                               try clear q132
                               try clear hx132
                               try clear hf132
                               try clear hcz105_0
                               try clear hcz105_1
                               try clear hcz105_2
                               try clear hcz105_3
                               try clear hfz105_0
                               try clear hfz105_1
                               try clear hfz105_2
                               try clear hfz105_3
                               try clear hx101_0
                               try clear hx101_1
                               try clear hx132_0
                               try clear hx747_0
                               try clear hx747_1
                               try clear hx748_0
                               try clear hx749_0
                               try clear hx750_0
                               try clear hx750_1
                               try clear hx751_0
                               try clear hx763_0
                               try clear hx763_1
                               try clear hx770_0
                               try clear hx770_1
                               try clear hx776_0
                               try clear hx776_1
                               try clear hx795_0
                               try clear hx795_1
                               try clear hx80_0
                               try clear hx82_0
                               try clear hx82_1
                               try clear hx91_0
                               try clear hx91_1
                               try clear hx94_0
                               try clear hx94_1
                               try clear p132
                               try clear p2
                               try clear p6
                               try clear p64
                               try clear p7
                               try clear p74
                               try clear p747
                               try clear p748
                               try clear p749
                               try clear p75
                               try clear p750
                               try clear p751
                               try clear p76
                               try clear p763
                               try clear p77
                               try clear p770
                               try clear p776
                               try clear p795
                               try clear p8
                               try clear p80
                               try clear p82
                               try clear p9
                               try clear p94
                               try clear q132
                               try clear q7
                               try clear q74
                               try clear q747
                               try clear q748
                               try clear q749
                               try clear q75
                               try clear q750
                               try clear q751
                               try clear q76
                               try clear q763
                               try clear q77
                               try clear q770
                               try clear q776
                               try clear q795
                               try clear q8
                               try clear q80
                               try clear q82
                               try clear q9
                               try clear q94
                               obtain ⟨kq, x25_116, HA, HJ116, HO_1, HO_24, HO_25, BK730, HB⟩ := hcut
                               have hl25_116 := (Kd.R_reads' HO_25.out).1
                               rw [hl25_116] at HO_25
                               (try simp only [hl25_116])
                               (try simp only [hl25_116] at BK730)
                               (try simp only [hl25_116] at HO_1)
                               (try simp only [hl25_116] at HO_24)
                               cases kq with
                               | zero => exact absurd HA.out (by simp [saronlaw06_KernelWrongly.j8])
                               | succ kj116 =>
                                have H := HA.out
                                clear HA
                                simp only [saronlaw06_KernelWrongly.j8] at H
                                by_cases c135 : 0 ≤ t785
                                ·rw [if_pos c135] at H
                                 have c135b0 : decide (0 ≤ t785) = true := decide_eq_true c135
                                 clear c135
                                 by_cases c136 : t785 < (l1.length : Int)
                                 ·rw [if_pos c136] at H
                                  have c136b0 : decide (t785 < (l1.length : Int)) = true := decide_eq_true c136
                                  clear c136
                                  replace H := Option.bind_eq_some_iff.mp H
                                  obtain ⟨⟨t805, t806⟩, A1370, H⟩ := H
                                  replace H : (if t785 < (y789.length : Int) then ((kernel_Least.f a0_0 a0_1 a0_2 l0_3 (y789.set (t785 : Int).toNat (⟨t805, t806⟩ : S60))).bind fun bt810 => (if bt810.2 = 0 then ((saronref00_Plain.f (wrap64 (bt810.1 - t731))).bind fun t812 => (if t812 ≤ 1 then ((saronlaw06_works.f).bind fun t813 => (some t813)) else (some false))) else (some false))) else (none)) = some r := H
                                  have A137 := zh A1370
                                  clear A1370
                                  by_cases c138 : t785 < (y789.length : Int)
                                  ·rw [if_pos c138] at H
                                   have c138b0 : decide (t785 < (y789.length : Int)) = true := decide_eq_true c138
                                   clear c138
                                   obtain ⟨y809, hy809⟩ : ∃ y_ : List (S60), y_ = (y789.set (t785 : Int).toNat (⟨t805, t806⟩ : S60)) := ⟨_, rfl⟩
                                   replace H : ((kernel_Least.f a0_0 a0_1 a0_2 l0_3 y809).bind fun bt810 => (if bt810.2 = 0 then ((saronref00_Plain.f (wrap64 (bt810.1 - t731))).bind fun t812 => (if t812 ≤ 1 then ((saronlaw06_works.f).bind fun t813 => (some t813)) else (some false))) else (some false))) = some r := by first | (rw [hy809]; with_reducible exact H) | (have H2_ := (Option.bind_some _ _).symm.trans H; rw [hy809]; with_reducible exact H2_) | (have H2_ := (Option.bind_some _ _).symm.trans H; with_reducible exact H2_) | with_reducible exact H | (rw [hy809]; exact H) | exact H
                                   have Ny809 := zh hy809
                                   clear hy809
                                   replace H := Option.bind_eq_some_iff.mp H
                                   obtain ⟨⟨t810, t811⟩, A1400, H⟩ := H
                                   replace H : (if t811 = 0 then ((saronref00_Plain.f (wrap64 (t810 - t731))).bind fun t812 => (if t812 ≤ 1 then ((saronlaw06_works.f).bind fun t813 => (some t813)) else (some false))) else (some false)) = some r := H
                                   have A140 := zh A1400
                                   clear A1400
                                   by_cases c141 : t811 = 0
                                   ·rw [if_pos c141] at H
                                    have c141b0 : (t811 == 0) = true := beq_iff_eq.mpr c141
                                    have c141b1 : (t811 != 0) = false := bne_eq_false_iff_eq.mpr c141
                                    clear c141
                                    replace H := Option.bind_eq_some_iff.mp H
                                    obtain ⟨t812, A1420, H⟩ := H
                                    replace H : (if t812 ≤ 1 then ((saronlaw06_works.f).bind fun t813 => (some t813)) else (some false)) = some r := H
                                    have A142 := zh A1420
                                    clear A1420
                                    by_cases c143 : t812 ≤ 1
                                    ·rw [if_pos c143] at H
                                     have c143b0 : decide (t812 ≤ 1) = true := decide_eq_true c143
                                     clear c143
                                     replace H := Option.bind_eq_some_iff.mp H
                                     obtain ⟨t813, A1440, H⟩ := H
                                     replace H : (some t813) = some r := H
                                     have A144 := zh A1440
                                     clear A1440
                                     obtain rfl := Option.some.inj H
                                     have p804 : 0 ≤ (t785 : Int) := of_decide_eq_true zs
                                     have q804 : t785 < (l1.length : Int) := of_decide_eq_true zs
                                     obtain ⟨ad804, A804_1, c804_1, e804, hx804_0, hx804_1, hl804_1, hi804_1⟩ := at_T60 (Kd.V_reads' HO_1.out).2.2 t785 p804 q804
                                     obtain rfl : ad795 = ad804 := (by injection e804)
                                     obtain ⟨ce804, hce804, hMe804, hcc804⟩ := Kd.V_get HO_1.out z60 t785 p804 (by first | exact q804 | exact of_decide_eq_true zs | (have e_ := (Kd.V_reads' HO_1.out).1; omega))
                                     obtain ⟨ua804_1, uc804_1, rfl, ul804_1, ge804_1⟩ := k60_openF hMe804
                                     have hv804_1 := hcc804 1 _ rfl
                                     rw [add_field _ _ 1 (by omega)] at hv804_1
                                     replace hv804_1 := Option.some.inj (hv804_1.symm.trans hx804_1)
                                     injection hv804_1 with hva_ hvn_ hvc_
                                     rw [hva_] at ge804_1
                                     rw [hvc_] at ul804_1
                                     have HL804_1 := zh (show Kd.V (Kd.int .i64) 3 _ w.heap.size _ _ ((rd_T60 l1 t785).f1) from Kd.V_mk ul804_1 ge804_1)
                                     clear hva_ hvn_ hvc_ ge804_1 ul804_1 hcc804 hce804
                                     have HR804_1 := zh hi804_1
                                     have HC804_1 := zh hl804_1
                                     clear hi804_1 hl804_1
                                     replace p804 := eq_true p804
                                     replace q804 := eq_true q804
                                     go_wp2_with (first | ((with_reducible refine gate_callee (f := 44) rfl ?_); refine goesL_ (some 262) rfl rfl Tryd.func44 zk rfl #[.int .i64 ((rd_T60 l1 t785).f0), .slice Ao124 x25_116.length co124] rfl zm ?_; (with_reducible refine (saronlaw06_of.calls ((rd_T60 l1 t785).f0) (fun k_ => some k_ = (.slice Ao124 x25_116.length co124 : Value).ownBlock) (.slice Ao124 x25_116.length co124) x25_116 t805 t806 w _ ?side1 ?side2 A137.out).mono ?_); (case side1 => repeat (first | (with_reducible first | exact HB.out | apply below_alloc | apply pw_below_drewN | apply below_drew1 | refine below_set ?_ GE730.out) | exact HB.out)); (case side2 => exact Kd.R_tight rfl HO_25.out); rintro e w145 ⟨v807, rfl, ho0, hb, hkp⟩; refine ⟨_, rfl, ?_⟩; have n0_ := zh (Kd.V_mono (ok' := fun k_ => (P1_ k_ ∨ w.heap.size ≤ k_) ∧ some k_ ≠ (v790 : Value).ownBlock ∧ k_ ≠ gb730 ∧ some k_ ≠ (v807 : Value).ownBlock) (Kd.V_keptB (HO_1.out) hkp (fun k_ hk_ hs_ => (hk_.2.2.1) hs_)) (fun k_ hk_ => ⟨hk_.1.1, hk_.1.2.1, hk_.1.2.2.2, fun e_ => Or.elim (ho0.1 k_ e_.symm) (fun hs_ => hk_.2.1 hs_) (fun hn_ => Nat.not_le.2 hk_.2.2 hn_)⟩)); have n1_ := zh (Kd.N_mono (ok' := fun k_ => (P1_ k_ ∨ w.heap.size ≤ k_) ∧ k_ ≠ gb730 ∧ some k_ ≠ (v807 : Value).ownBlock) (Kd.N_keptB (HO_24.out) hkp (fun k_ hk_ hs_ => (hk_.2.1) hs_)) (fun k_ hk_ => ⟨hk_.1.1, hk_.1.2.2, fun e_ => Or.elim (ho0.1 k_ e_.symm) (fun hs_ => hk_.2.1 hs_) (fun hn_ => Nat.not_le.2 hk_.2.2 hn_)⟩)); have n2_ := zh (blk_kept (zc BK730) hkp (fun hs_ => (fun e_ => (Kd.R_ne HO_25.out BK730.out (by decide)) e_) hs_)); have n3_ := zh (Kd.R_mono (ok' := fun k_ => (w.heap.size ≤ k_)) ho0 (fun k_ hk_ => Or.elim hk_ (fun hs_ => (HO_25.out.1 k_ (hs_).symm)) (fun hn_ => (Nat.le_trans (below_size zb) hn_)))); have n4_ := zh (hb); clear HO_1; clear HO_24; clear BK730; clear HB; clear HO_25; clear HL804_1; have HO_1 := n0_; have HO_24 := n1_; have BK730 := n2_; have HO808 := n3_; have HB := n4_; clear n0_ n1_ n2_ n3_ n4_; (try clear hb); (try clear hkp); (try clear ho0); have p139 : 0 ≤ (t785 : Int) := of_decide_eq_true zs; have q139 : (t785 : Int) < ((y789.length : Int) : Int) := of_decide_eq_true zs; obtain ⟨go139, co139, eo139, gb139, gl139, cl139, HG139⟩ := Kd.N_form HO_24.out (by omega); (first | cases eo139 | (injection eo139 with ea_ en_ ec_; (first | subst ea_ | (injection ea_ with ea_; subst ea_)); subst ec_; clear en_)); have GB139 := zh gb139; have GG139 := zh HG139; clear gb139 gl139 HG139; obtain ⟨ce139, hcl139, hM139, hcc139, hfr139⟩ := Kd.N_elem HO_24.out z60 (t785 : Int) p139 q139; obtain ⟨ua139_1, uc139_1, rfl, ul139_1, ge139_1⟩ := k60_openF hM139; have hx139_0 : w145.cell? ⟨go139, (t785 : Int).toNat * 2, none⟩ = some (.int .i64 ((rd_T60 y789 t785).f0)) := hcc139 0 _ rfl; have hx139_1 : w145.cell? ⟨go139, (t785 : Int).toNat * 2 + 1, none⟩ = some (.slice ua139_1 ((rd_T60 y789 t785).f1).length uc139_1) := hcc139 1 _ rfl; have hf139_0 : w145.frozen? ⟨go139, (t785 : Int).toNat * 2, none⟩ = false := hfr139 0; have hf139_1 : w145.frozen? ⟨go139, (t785 : Int).toNat * 2 + 1, none⟩ = false := hfr139 1; clear hcl139 hcc139 hfr139 hM139; replace p139 := eq_true p139; replace q139 := eq_true q139; have HX146 := zh (show Kd.N k60 60 w145 w.heap.size (fun k_ => (P1_ k_ ∨ w.heap.size ≤ k_) ∧ k_ ≠ gb730) (.slice (some ⟨go139, 0, none⟩) y789.length co139) y789 from (by (with_reducible repeat (first | apply Kd.N_alloc | apply Kd.N_drewN | apply Kd.N_drew)); exact Kd.N_mono HO_24.out (fun _ hk => ⟨hk.1, hk.2.1⟩))); obtain ⟨ce146, hcl146, hM146, hcc146, hfr146⟩ := Kd.N_elem HX146.out z60 (t785 : Int) (of_decide_eq_true zs) (by have h_ : (t785 : Int) < ((y789.length : Int) : Int) := of_decide_eq_true zs; first | exact h_ | (have e_ := (Kd.N_reads' HO_24.out).1; omega) | simpa using h_); obtain ⟨ua146_1, uc146_1, rfl, ul146_1, ge146_1⟩ := k60_openF hM146; have hch_ := (Kd.R_types (Kd.R_apart' (HO808.out) (Kd.N_typed HO_24.out) (by decide)) BK730.out (by decide)); have HP146 := Kd.N_seg HX146.out (t785 : Int) (of_decide_eq_true zs) (by have h_ : (t785 : Int) < ((y789.length : Int) : Int) := of_decide_eq_true zs; first | exact h_ | (have e_ := (Kd.N_reads' HO_24.out).1; omega) | simpa using h_) (seg := [.int .i64 t805, v807]) (j := 0) hcl146 hcc146 (show 2 ≤ 2 from by decide) (x' := (⟨t805, t806⟩ : S60)) (k60_mkV _ _ (⟨t805, t806⟩ : S60) (Kd.R_mono (ok' := (fun k_ => ((fun k_ => (P1_ k_ ∨ w.heap.size ≤ k_) ∧ k_ ≠ gb730)) k_ ∧ k_ ≠ go139)) hch_ (fun k_ hk => ⟨⟨(.inr (hk.1.1)), hk.2⟩, fun e_ => (hk.1.2) (by rw [e_]; rfl)⟩))) (fun _ hk => hk); clear hch_; have hx146_0 := hcc146 0 _ rfl; (try simp only [show (k60).sz = 2 from rfl, Nat.mul_one, Nat.add_zero] at hx146_0); have hf146_0 := hfr146 0; (try simp only [show (k60).sz = 2 from rfl, Nat.mul_one, Nat.add_zero] at hf146_0); have hx146_1 := hcc146 1 _ rfl; (try simp only [show (k60).sz = 2 from rfl, Nat.mul_one, Nat.add_zero] at hx146_1); have hf146_1 := hfr146 1; (try simp only [show (k60).sz = 2 from rfl, Nat.mul_one, Nat.add_zero] at hf146_1); clear hcl146 hcc146 hfr146 hM146) | ((with_reducible refine gate_store (t := 60) (p := 263) rfl ?_); refine store_event (t := 60) (p := 263) (v := ?vo_w147) (w1 := ((w145.setCell ⟨go139, (t785 : Int).toNat * 2, none⟩ (.int .i64 t805)).setCell ⟨go139, (t785 : Int).toNat * 2 + 1, none⟩ (v807))) ?hg ?ho ?hn ?hr ?_; (case ho => rfl); (case hg => rfl); (case hn => rfl); (case hr => obtain ⟨av_, cv_, ev_⟩ := Kd.R_slice HO808.out; rw [ev_]; first | (go_simp; done) | (go_simp; rfl)); intro w147 hw; have hg : w145.grownBy w147 (some go139) := (by rw [hw]; exact HP146.2); have hp_ : Kd.N k60 60 w147 w.heap.size (fun k_ => (P1_ k_ ∨ w.heap.size ≤ k_) ∧ k_ ≠ gb730) (.slice (some ⟨go139, 0, none⟩) y789.length co139) y809 := (by rw [hw, Ny809.out]; exact HP146.1); clear HP146; have n0_ := zh (Kd.V_afterv (v := (.slice (some ⟨go139, 0, none⟩) y789.length co139)) (v1 := (.slice (some ⟨go139, 0, none⟩) y789.length co139)) (ok := (fun k_ => (P1_ k_ ∨ w.heap.size ≤ k_) ∧ some k_ ≠ (v807 : Value).ownBlock ∧ k_ ≠ gb730)) dWr2 hg (.inl rfl)); have n1_ := zh (hp_); have n2_ := zh (blk_grown (g := gb730) (o := .cells #[.int .i64 a0_0, .int .i64 a0_1, .int .i64 a0_2, .slice A0_3 l0_3.length c0_3] 24 (0, 0)) (zc BK730) hg (Kd.N_ne HO_24.out BK730.out (by decide))); have n3_ := zh ((by rw [hw]; exact below_set (below_set (HB.out) GB139.out) GB139.out : Below w.heap.size w w147)); clear HO_1; clear HO_24; clear BK730; clear HB; clear HO808; have HO_1 := n0_; have HO_24 := n1_; have BK730 := n2_; have HB := n3_; clear n0_ n1_ n2_ n3_; clear hg hw hp_; have hcz148_0 : w147.cell? ⟨gb730, 0, none⟩ = some (.int .i64 a0_0) := vb BK730 0; have hcz148_1 : w147.cell? ⟨gb730, 1, none⟩ = some (.int .i64 a0_1) := vb BK730 1; have hcz148_2 : w147.cell? ⟨gb730, 2, none⟩ = some (.int .i64 a0_2) := vb BK730 2; have hcz148_3 : w147.cell? ⟨gb730, 3, none⟩ = some (.slice A0_3 l0_3.length c0_3) := vb BK730 3; have hfz148_0 := blk_frozen BK730.out 0; have hfz148_1 := blk_frozen BK730.out 1; have hfz148_2 := blk_frozen BK730.out 2; have hfz148_3 := blk_frozen BK730.out 3) | ((with_reducible refine gate_callee (f := 31) rfl ?_); refine goesL_ (some 267) rfl rfl Tryd.func31 zk rfl #[.agg #[.int .i64 a0_0, .int .i64 a0_1, .int .i64 a0_2, .slice A0_3 l0_3.length c0_3], .slice (some ⟨go139, 0, none⟩) y809.length co139] rfl (by (try simp only [List.map_toArray, List.map_cons, List.map_nil]); first | done | (rw [show y809.length = y789.length from (Kd.N_reads' HO_24.out).1.symm] <;> rfl) | rfl | (simp only [List.length_drop, List.length_take]; rfl)) ?_; (with_reducible refine (kernel_Least.calls a0_0 a0_1 a0_2 _ _ l0_3 _ _ y809 t810 t811 _ ?side1 ?side2 ?side3 ?side4 ?side5 A140.out).mono ?_); (case side1 => repeat (first | exact (Kd.C_below HR0_3.out HB.out) | (with_reducible refine Kd.C_alloc ?_ _) | (with_reducible refine Kd.C_drewN ?_ _) | (with_reducible refine Kd.C_drew ?_))); (case side2 => exact HC0_3.out); (case side3 => repeat (first | exact (Kd.N_reads' HO_24.out).2.2 | (with_reducible refine Kd.C_alloc ?_ _) | (with_reducible refine Kd.C_drewN ?_ _) | (with_reducible refine Kd.C_drew ?_))); (case side4 => rw [show y809.length = y789.length from (Kd.N_reads' HO_24.out).1.symm]; exact (Kd.N_reads' HO_24.out).2.1); (case side5 => exact Glob.below HG.out zb); rintro e w149 ⟨rfl, hb⟩; refine ⟨_, rfl, ?_⟩; have n0_ := zh (Kd.V_below (zV HO_1) hb); have n1_ := zh (Kd.N_below (zN HO_24) hb); have n2_ := zh (blk_below (g := gb730) (o := .cells #[.int .i64 a0_0, .int .i64 a0_1, .int .i64 a0_2, .slice A0_3 l0_3.length c0_3] 24 (0, 0)) (zc BK730) hb); have n3_ := zh (below_step zb hb); clear HO_1; clear HO_24; clear BK730; clear HB; have HO_1 := n0_; have HO_24 := n1_; have BK730 := n2_; have HB := n3_; clear n0_ n1_ n2_ n3_; (try clear hb); (try clear hb2); (try clear hk); (try clear hi)) | (go_at_call 48; (with_reducible refine (saronref00_Plain.calls (wrap64 (t810 - t731)) t812 _ A142.out).mono ?_); rintro e w' ⟨rfl, ⟨nd, rfl⟩⟩) | (go_at_call 21; (with_reducible refine (saronlaw06_works.calls  t813 _ ?side1 A144.out).mono ?_); (case side1 => exact Glob.below HG.out zb); rintro e w150 ⟨rfl, hb⟩; have n0_ := zh (Kd.V_below (zV HO_1) hb); have n1_ := zh (Kd.N_below (zN HO_24) hb); have n2_ := zh (blk_below (g := gb730) (o := .cells #[.int .i64 a0_0, .int .i64 a0_1, .int .i64 a0_2, .slice A0_3 l0_3.length c0_3] 24 (0, 0)) (zc BK730) hb); have n3_ := zh (below_step zb hb); clear HO_1; clear HO_24; clear BK730; clear HB; have HO_1 := n0_; have HO_24 := n1_; have BK730 := n2_; have HB := n3_; clear n0_ n1_ n2_ n3_; (try clear hb); (try clear hb2); (try clear hk); (try clear hi)))
                                     go_ret
                                     exact ⟨zf, zb⟩
                                    ·rw [if_neg c143] at H
                                     have c143b0 : decide (t812 ≤ 1) = false := decide_eq_false c143
                                     clear c143
                                     exact absurd ((Option.some.inj H).trans HRT.out) (by decide)
                                   ·rw [if_neg c141] at H
                                    have c141b0 : (t811 == 0) = false := beq_eq_false_iff_ne.mpr c141
                                    have c141b1 : (t811 != 0) = true := bne_iff_ne.mpr c141
                                    exact absurd ((Option.some.inj H).trans HRT.out) (by decide)
                                  ·rw [if_neg c138] at H
                                   exact absurd H (by simp)
                                 ·rw [if_neg c136] at H
                                  exact absurd H (by simp)
                                ·rw [if_neg c135] at H
                                 exact absurd H (by simp)
                            ·rw [if_neg c116] at H
                             exact absurd H (by simp)
                           ·rw [if_neg c115] at H
                            exact absurd H (by simp)
                          ·rw [if_neg c114] at H
                           exact absurd H (by simp)
                         ·rw [if_neg c113] at H
                          exact absurd H (by simp)
             ·rw [if_neg c63] at H
              exact absurd H (by simp)
end Go.Proofs.YtagkfkdoibnhfaaDoor.H
end
section
namespace Go.Proofs.YtagkfkdoibnhfaaDoor.kernelWrongly
open Go.ChangeShapes Go.WideShapes Go.ChangeAt Go.RowKit Go.Proofs.YtagkfkdoibnhfaaDoorW.PrintWords Go.Proofs.YtagkfkdoibnhfaaDoor.H Go.Proofs.YtagkfkdoibnhfaaDoor.K
set_option linter.unusedVariables false
theorem own : ownKnob Tryd.prog.godebug = none := by kernel_rfl
theorem laidOut : laidOutB Tryd.prog = true := by kernel_rfl
theorem door_met (os : Os) (args : Array Value) : laidMetH Tryd.prog laid1 ((World.doorLaid Tryd.prog 600 os).forCall (fun _ _ => 0) ⟨#[], args, []⟩).memory :=
 laidMetH_of_parts3 (fuel := 8) (laidMet_of_run' 8 zk zk) zk zk
set_option maxRecDepth 100000 in
set_option maxHeartbeats 2000000 in
theorem lifted (os : Os) (started : os.Started) (H : Type) (enc : TypeId × Value → H) :
  ReturnsInHanded {} Tryd.checked os 12 .any (fun w args => (Rows.kernelWronglySpec.pre enc Tryd.prog Tryd.f12 [] false w args ∧ laidMetH Tryd.prog laid1 w) ∧ sizedMet enc Tryd.prog Tryd.f12 (OpenSpec.ofChange Rows.kernelWronglySpec) false w args)
   (Rows.kernelWronglySpec.post enc Tryd.prog Tryd.f12 false true false false) := by
 refine returnsInHanded_of_change_and (C := Tryd.checked) (X := fun w _ => laidMetH Tryd.prog laid1 w) (fun _ _ _ hh h => h.of_heap hh) own started zk Tryd.func12
  (ChangeSpec.witness_shaped (enc := enc) (C := Tryd.checked) (os := os) (X := fun w _ => laidMetH Tryd.prog laid1 w) false (World.doorLaid Tryd.prog 600 os) #[.agg #[.int .i64 0, .int .i64 0, .int .i64 0, .slice none 0 0], .slice none 0 0, .slice none 0 0] 8 rfl (World.shaped_of_RefB zk zk) zk zk zk (door_met os _)) ?_
 intro W base args ds gs before hval0 hW _ _ hL _
 have hval : ∀ (j : Nat) t v, Tryd.f12.params[j]? = some t → args[j]? = some v → Value.okWide Tryd.prog W .any base t v := hval0
 have hW' := hW
 obtain ⟨p, q, hA0, hV, rfl, hfz, hnd⟩ := hW
 have hA : DataW.TrodAll enc Tryd.prog W 0 (fun _ => true) true Tryd.f12.params.toList args.toList ds p := hA0
 rw [Tryd.params12] at hA hval
 obtain ⟨v0, vs0, d0, ds0, p0, q0, hargs, rfl, rfl, h0, r0⟩ := trodAll_cons hA
 obtain ⟨v1, vs1, d1, ds1, p1, q1, rfl, rfl, rfl, h1, r1⟩ := trodAll_cons r0
 obtain ⟨v2, vs2, d2, ds2, p2, q2, rfl, rfl, rfl, h2, r2⟩ := trodAll_cons r1
 obtain ⟨rfl, rfl, rfl⟩ := trodAll_nil r2
 obtain rfl : args = #[v0, v1, v2] := by cases args; simp_all
 obtain ⟨rfl, rfl⟩ := trodVars_none hV
 have k0 := h0
 have lt0 : ∀ x ∈ p0, x.block < W.heap.size := by obtain ⟨m, hm⟩ := k0; exact DataW.trod_lt m _ _ _ hm
 obtain ⟨T0, O0, L0, A0, R0, c0, rfl, hc0, hC0, iT0, iO0, iL0, sR0, iR0⟩ := arg_scale (hval 0 24 v0 rfl rfl) h0
 have k1 := h1
 have lt1 : ∀ x ∈ p1, x.block < W.heap.size := by obtain ⟨m, hm⟩ := k1; exact DataW.trod_lt m _ _ _ hm
 obtain ⟨A1, l1, c1, rfl, hc1, hC1, s1, i1⟩ := arg_heard (hval 1 33 v1 rfl rfl) h1
 have k2 := h2
 have lt2 : ∀ x ∈ p2, x.block < W.heap.size := by obtain ⟨m, hm⟩ := k2; exact DataW.trod_lt m _ _ _ hm
 obtain ⟨A2, l2, c2, rfl, hc2, hC2, s2, i2⟩ := arg_ints (hval 2 25 v2 rfl rfl) h2
 clear hA0 hval0
 have hG := glob_of_laid hL
 refine (saronlaw06_KernelWrongly.calls (2 * R0.length + 1000) T0 O0 L0 A0 c0 R0 (fun _ => True) A1 c1 l1 A2 c2 l2 true W hC0 hc0 (view60 hC1 hc1) hC2 hc2 hG rfl (K.O.wrong_law T0 O0 L0 R0 l1 l2 sR0 s2 _ (Nat.le_refl _))).mono fun e W' ⟨he, bel⟩ => ?_
 subst he
 exact ⟨_, rfl, _, _, _, [], _, [], hW', trodAll_mk1 (shut_bool Tryd.underlying4 _), (trodAll_cons_mk (Below.trod laidOut zk (of_decide_eq_true zk) k0 bel lt0) (trodAll_cons_mk (Below.trod laidOut zk (of_decide_eq_true zk) k1 bel lt1) (trodAll_cons_mk (Below.trod laidOut zk (of_decide_eq_true zk) k2 bel lt2) trodAll_mk0))), rfl, bel.frame _, fun h => by cases h⟩
theorem over : Rows.kernelWronglyRow.holds Tryd.pinned (OpenSpec.ofChange Rows.kernelWronglySpec) :=
 OpenClaim.holds_of_wide 12 Tryd.f12 rfl rfl rfl rfl rfl rfl rfl ⟨rfl, rfl, rfl, rfl, rfl⟩ rfl rfl rfl rfl rfl zk Tryd.func12 zk
  (of_decide_eq_true zk) (by unfold Func.isWrapper; first | (rw [if_pos (by decide +kernel)]; kernel_rfl) | (rw [if_neg (by decide +kernel)]; exact ⟨rfl, rfl⟩))
  (fun os started H enc _ => lifted os started H enc)
theorem proved : Rows.KernelWronglyCardSaid :=
 Claim7.holds_tied_plain_at .later [] [.funcs] true (true, "1546f209dbcbef264cbb20aea537f6d5569935ba401e115858a8843598e79524") false
  over (fun _ h => by cases h) zk (fun _ h => by cases h) kernelWrongly_row_tie rfl ⟨rfl, rfl⟩ zk rfl
  (fun f fn hf hfn => by
   obtain rfl : f = 12 := Option.some.inj ((show Tryd.prog.funcNamed "saron/saronlaw06.KernelWrongly" = some 12 by kernel_rfl).symm.trans hf) |>.symm
   obtain rfl : fn = Tryd.f12 := (Option.some.inj (Tryd.func12.symm.trans hfn)).symm
   exact ⟨by kernel_rfl, fun j t ht => by
    rw [Tryd.params12] at ht
    have hm : t ∈ [24, 33, 25] := by simpa using Array.mem_of_getElem? ht
    have hall : ([24, 33, 25].all fun u => !Tryd.prog.wantsStandIn u) = true := by kernel_rfl
    exact (show Tryd.prog.wantsStandIn t = false by simpa using List.all_eq_true.1 hall t hm)⟩)
  zk
end Go.Proofs.YtagkfkdoibnhfaaDoor.kernelWrongly
namespace Go.Proofs.YtagkfkdoibnhfaaDoor
theorem kernelWrongly_card : Rows.KernelWronglyCardSaid := kernelWrongly.proved
end Go.Proofs.YtagkfkdoibnhfaaDoor
end
