/- KernelMany: for every scale, anything heard and every place the law returns true, and each argument reads afterwards as it read before. Condition: when the call begins the package's table of rules reads as the program's text lays it; the card ties that to the text. -/
import Derived.Below
import Derived.Carry
import Derived.LaidMore
import Derived.OpenShut
import Derived.ProofKit
import Derived.SevenTiedAt
import Derived.SizedLaws
import Derived.Stop.Joined
import Derived.WalkKit
import Derived.Test.YtagkfkdoibnhfaaDoorCards
import Derived.Test.YtagkfkdoibnhfaaDoorTie
import Derived.Test.YtagkfkdoibnhfaaDoorZB2
import Derived.Test.YtagkfkdoibnhfaaDoorZB4
import Derived.Test.YtagkfkdoibnhfaaDoorZMany1
set_option linter.all false
section
namespace Go.Proofs.YtagkfkdoibnhfaaDoor.H
open Go.RowKit Go.Proofs.YtagkfkdoibnhfaaDoorW.PrintWords Go.Proofs.YtagkfkdoibnhfaaDoorW.PrintLast Go.Proofs.YtagkfkdoibnhfaaDoorW.PrintMore
attribute [local go_sem] max2_int min2_int max_two min_two max_three min_three max_four min_four   -- for this text's walks alone
set_option linter.unusedVariables false
set_option linter.unusedSimpArgs false
mutual
def saronref06_Can.l0 : Nat → Int → List (List (S61)) → List Int → Int → Int → Int → Int → List (S66) → Option (List Int × Int)
 | 0, _, _, _, _, _, _, _, _ => none
 | k + 1, x2, x9, x11, x12, x283000, x283001, x283002, x283003 => (saronref06_tones.f x283000 x283001 x283002 x283003).bind fun t289 => (if x12 < t289 then (saronref06_Can.l1 k x2 x9 x11 x12 false 0 x283000 x283001 x283002 x283003) else (some (x11, 0)))
def saronref06_Can.l1 : Nat → Int → List (List (S61)) → List Int → Int → Bool → Int → Int → Int → Int → List (S66) → Option (List Int × Int)
 | 0, _, _, _, _, _, _, _, _, _, _ => none
 | k + 1, x2, x9, x11, x12, x13, x14, x283000, x283001, x283002, x283003 => if 0 ≤ (wrap64 (Int.tdiv x2 2)) then (if (wrap64 (Int.tdiv x2 2)) < (x9.length : Int) then (if x14 < ((rd_L9 x9 (wrap64 (Int.tdiv x2 2))).length : Int) then (if x13 = true then (saronref06_Can.l1 k x2 x9 x11 x12 true (wrap64 (x14 + 1)) x283000 x283001 x283002 x283003) else (if 0 ≤ x14 then (if (Int.tmod x2 2) = 0 then (saronref06_Can.l1 k x2 x9 x11 x12 (((rd_T61 (rd_L9 x9 (wrap64 (Int.tdiv x2 2))) x14).f0) == x12) (wrap64 (x14 + 1)) x283000 x283001 x283002 x283003) else (if (Int.tmod x2 2) = 1 then (saronref06_Can.l1 k x2 x9 x11 x12 (((rd_T61 (rd_L9 x9 (wrap64 (Int.tdiv x2 2))) x14).f1) == x12) (wrap64 (x14 + 1)) x283000 x283001 x283002 x283003) else (none))) else (none))) else (if x13 = true then (if x11.length < 17592186044416 then (saronref06_Can.l0 k x2 x9 (x11 ++ [x12]) (wrap64 (x12 + 1)) x283000 x283001 x283002 x283003) else (none)) else (saronref06_Can.l0 k x2 x9 x11 (wrap64 (x12 + 1)) x283000 x283001 x283002 x283003))) else (none)) else (none)
end
def saronref06_Can.f (k : Nat) (a0_0 : Int) (a0_1 : Int) (a0_2 : Int) (l0_3 : List (S66)) (l1 : List (S60)) (a2 : Int) : Option (List Int × Int) := (saronref06_asked.f k a0_0 a0_1 a0_2 l0_3 l1).bind fun t283 => (if t283 = 0 then ((saronref00_Sits.f a2 0 (wrap64 (a0_2 - 1))).bind fun t284 => (if t284 = true then ((saronref06_all.f k a0_0 a0_1 a0_2 l0_3 l1).bind fun bt285 => (if bt285.2 = true then (saronref06_Can.l0 k a2 bt285.1 ([] : List Int) 0 a0_0 a0_1 a0_2 l0_3) else (some (([] : List Int), 62)))) else (some (([] : List Int), 61)))) else (some (([] : List Int), t283)))
set_option maxHeartbeats 8000000 in
set_option maxRecDepth 100000 in
theorem saronref06_Can.calls (k : Nat) (a0_0 : Int) (a0_1 : Int) (a0_2 : Int) (A0_3 : Option Addr) (c0_3 : Nat) (l0_3 : List (S66)) (A1 : Option Addr) (c1 : Nat) (l1 : List (S60)) (a2 : Int) (r1 : List Int) (r2 : Int) (w : World) (hr0_3 : Kd.C k66 w A0_3 l0_3.length l0_3) (hc0_3 : l0_3.length ≤ c0_3) (hr1 : Kd.C k60 w A1 l1.length l1) (hc1 : l1.length ≤ c1) (h : saronref06_Can.f k a0_0 a0_1 a0_2 l0_3 l1 a2 = some (r1, r2)) :
  Calls Tryd.prog 25 #[.agg #[.int .i64 a0_0, .int .i64 a0_1, .int .i64 a0_2, .slice A0_3 l0_3.length c0_3], .slice A1 l1.length c1, .int .i64 a2] w fun e w' => ∃ v0_ : Value, e = .returned (.tuple #[v0_, .int .i64 r2]) ∧ Kd.R (Kd.int .i64) 3 w' w.heap.size (fun _ => True) v0_ r1 ∧ Below w.heap.size w w' := by
 have hu24 := Tryd.underlying24
 have HR0_3 := zh hr0_3
 have HC0_3 := zh hc0_3
 clear hr0_3 hc0_3
 have HR1 := zh hr1
 have HC1 := zh hc1
 clear hr1 hc1
 have HB := zh (Below.refl w.heap.size w)
 have H : ((saronref06_asked.f k a0_0 a0_1 a0_2 l0_3 l1).bind fun t283 => (if t283 = 0 then ((saronref00_Sits.f a2 0 (wrap64 (a0_2 - 1))).bind fun t284 => (if t284 = true then ((saronref06_all.f k a0_0 a0_1 a0_2 l0_3 l1).bind fun bt285 => (if bt285.2 = true then (saronref06_Can.l0 k a2 bt285.1 ([] : List Int) 0 a0_0 a0_1 a0_2 l0_3) else (some (([] : List Int), 62)))) else (some (([] : List Int), 61)))) else (some (([] : List Int), t283)))) = some (r1, r2) := h
 clear h
 replace H := Option.bind_eq_some_iff.mp H
 obtain ⟨t283, A40, H⟩ := H
 replace H : (if t283 = 0 then ((saronref00_Sits.f a2 0 (wrap64 (a0_2 - 1))).bind fun t284 => (if t284 = true then ((saronref06_all.f k a0_0 a0_1 a0_2 l0_3 l1).bind fun bt285 => (if bt285.2 = true then (saronref06_Can.l0 k a2 bt285.1 ([] : List Int) 0 a0_0 a0_1 a0_2 l0_3) else (some (([] : List Int), 62)))) else (some (([] : List Int), 61)))) else (some (([] : List Int), t283))) = some (r1, r2) := H
 have A4 := zh A40
 clear A40
 by_cases c5 : t283 = 0
 ·rw [if_pos c5] at H
  have c5b0 : (t283 == 0) = true := beq_iff_eq.mpr c5
  have c5b1 : (t283 != 0) = false := bne_eq_false_iff_eq.mpr c5
  clear c5
  replace H := Option.bind_eq_some_iff.mp H
  obtain ⟨t284, A60, H⟩ := H
  replace H : (if t284 = true then ((saronref06_all.f k a0_0 a0_1 a0_2 l0_3 l1).bind fun bt285 => (if bt285.2 = true then (saronref06_Can.l0 k a2 bt285.1 ([] : List Int) 0 a0_0 a0_1 a0_2 l0_3) else (some (([] : List Int), 62)))) else (some (([] : List Int), 61))) = some (r1, r2) := H
  have A6 := zh A60
  clear A60
  by_cases c7 : t284 = true
  ·subst c7
   have H1 : ((saronref06_all.f k a0_0 a0_1 a0_2 l0_3 l1).bind fun bt285 => (if bt285.2 = true then (saronref06_Can.l0 k a2 bt285.1 ([] : List Int) 0 a0_0 a0_1 a0_2 l0_3) else (some (([] : List Int), 62)))) = some (r1, r2) := by rw [if_pos rfl] at H; exact H
   clear H
   have H := H1
   clear H1
   replace H := Option.bind_eq_some_iff.mp H
   obtain ⟨⟨t285, t288⟩, A80, H⟩ := H
   replace H : (if t288 = true then (saronref06_Can.l0 k a2 t285 ([] : List Int) 0 a0_0 a0_1 a0_2 l0_3) else (some (([] : List Int), 62))) = some (r1, r2) := H
   have A8 := zh A80
   clear A80
   by_cases c9 : t288 = true
   ·subst c9
    have H1 : (saronref06_Can.l0 k a2 t285 ([] : List Int) 0 a0_0 a0_1 a0_2 l0_3) = some (r1, r2) := by rw [if_pos rfl] at H; exact H
    clear H
    have H := H1
    clear H1
    have H' := zh H
    clear H
    go_enter Tryd.func25, Tryd.ntmps25
    go_wp2_with (first | ((with_reducible refine gate_dst (N := 3) rfl ?_); refine box_event ?hg (N := 3) ?hd (cs := #[.int .i64 a0_0, .int .i64 a0_1, .int .i64 a0_2, .slice A0_3 l0_3.length c0_3]) (t := 24) ?hr ?_; (case hd => rfl); (case hg => rfl); (case hr => first | (go_simp; done) | (go_simp; rfl)); intro gb282 hg w10 hbox hb; have n0_ := zh (below_step zb hb); have n1_ := zh (hbox); have n2_ := zh ((by rw [hg]; exact (below_size zb) : w.heap.size ≤ gb282)); have n3_ := zh ((by rw [hg]; exact (below_size zb) : w.heap.size ≤ gb282)); clear HB; have HB := n0_; have BK282 := n1_; have GW282 := n2_; have GE282 := n3_; clear n0_ n1_ n2_ n3_; clear hb hbox hg; have hcz11_0 : w10.cell? ⟨gb282, 0, none⟩ = some (.int .i64 a0_0) := vb BK282 0; have hcz11_1 : w10.cell? ⟨gb282, 1, none⟩ = some (.int .i64 a0_1) := vb BK282 1; have hcz11_2 : w10.cell? ⟨gb282, 2, none⟩ = some (.int .i64 a0_2) := vb BK282 2; have hcz11_3 : w10.cell? ⟨gb282, 3, none⟩ = some (.slice A0_3 l0_3.length c0_3) := vb BK282 3; have hfz11_0 := blk_frozen BK282.out 0; have hfz11_1 := blk_frozen BK282.out 1; have hfz11_2 := blk_frozen BK282.out 2; have hfz11_3 := blk_frozen BK282.out 3) | ((with_reducible refine gate_callee (f := 66) rfl ?_); refine goesL_ (some 17) rfl rfl Tryd.func66 zk rfl #[.agg #[.int .i64 a0_0, .int .i64 a0_1, .int .i64 a0_2, .slice A0_3 l0_3.length c0_3], .slice A1 l1.length c1] rfl zm ?_; (with_reducible refine (saronref06_asked.calls k a0_0 a0_1 a0_2 _ _ l0_3 _ _ l1 t283 _ ?side1 ?side2 ?side3 ?side4 A4.out).mono ?_); (case side1 => repeat (first | exact (Kd.C_below HR0_3.out HB.out) | (with_reducible refine Kd.C_alloc ?_ _) | (with_reducible refine Kd.C_drewN ?_ _) | (with_reducible refine Kd.C_drew ?_))); (case side2 => exact HC0_3.out); (case side3 => repeat (first | exact (Kd.C_below HR1.out HB.out) | (with_reducible refine Kd.C_alloc ?_ _) | (with_reducible refine Kd.C_drewN ?_ _) | (with_reducible refine Kd.C_drew ?_))); (case side4 => exact HC1.out); rintro e w12 ⟨rfl, hb⟩; refine ⟨_, rfl, ?_⟩; have n0_ := zh (blk_below (g := gb282) (o := .cells #[.int .i64 a0_0, .int .i64 a0_1, .int .i64 a0_2, .slice A0_3 l0_3.length c0_3] 24 (0, 0)) (zc BK282) hb); have n1_ := zh (below_step zb hb); clear BK282; clear HB; have BK282 := n0_; have HB := n1_; clear n0_ n1_; (try clear hb); (try clear hb2); (try clear hk); (try clear hi); have hcz13_0 : w12.cell? ⟨gb282, 0, none⟩ = some (.int .i64 a0_0) := vb BK282 0; have hcz13_1 : w12.cell? ⟨gb282, 1, none⟩ = some (.int .i64 a0_1) := vb BK282 1; have hcz13_2 : w12.cell? ⟨gb282, 2, none⟩ = some (.int .i64 a0_2) := vb BK282 2; have hcz13_3 : w12.cell? ⟨gb282, 3, none⟩ = some (.slice A0_3 l0_3.length c0_3) := vb BK282 3; have hfz13_0 := blk_frozen BK282.out 0; have hfz13_1 := blk_frozen BK282.out 1; have hfz13_2 := blk_frozen BK282.out 2; have hfz13_3 := blk_frozen BK282.out 3) | ((with_reducible refine gate_callee (f := 45) rfl ?_); refine goesL_ (some 25) rfl rfl Tryd.func45 zk rfl #[.int .i64 a2, .int .i64 0, .int .i64 (wrap64 (a0_2 - 1))] rfl zm ?_; (with_reducible refine (saronref00_Sits.calls a2 0 (wrap64 (a0_2 - 1)) true _ A6.out).mono ?_); rintro e w' ⟨rfl, ⟨nd, rfl⟩⟩; refine ⟨_, rfl, ?_⟩) | ((with_reducible refine gate_callee (f := 67) rfl ?_); refine goesL_ (some 30) rfl rfl Tryd.func67 zk rfl #[.agg #[.int .i64 a0_0, .int .i64 a0_1, .int .i64 a0_2, .slice A0_3 l0_3.length c0_3], .slice A1 l1.length c1] rfl zm ?_; (with_reducible refine (saronref06_all.calls k a0_0 a0_1 a0_2 _ _ l0_3 _ _ l1 t285 true _ ?side1 ?side2 ?side3 ?side4 A8.out).mono ?_); (case side1 => repeat (first | exact (Kd.C_below HR0_3.out zb) | (with_reducible refine Kd.C_alloc ?_ _) | (with_reducible refine Kd.C_drewN ?_ _) | (with_reducible refine Kd.C_drew ?_))); (case side2 => exact HC0_3.out); (case side3 => repeat (first | exact (Kd.C_below HR1.out zb) | (with_reducible refine Kd.C_alloc ?_ _) | (with_reducible refine Kd.C_drewN ?_ _) | (with_reducible refine Kd.C_drew ?_))); (case side4 => exact HC1.out); rintro e w14 ⟨v286, rfl, ho0, hb⟩; refine ⟨_, rfl, ?_⟩; have n0_ := zh (Kd.S_lower ho0 (below_size zb)); have n1_ := zh (blk_below (g := gb282) (o := .cells #[.int .i64 a0_0, .int .i64 a0_1, .int .i64 a0_2, .slice A0_3 l0_3.length c0_3] 24 (0, 0)) (zc BK282) hb); have n2_ := zh (below_step zb hb); clear BK282; clear HB; have HO287 := n0_; have BK282 := n1_; have HB := n2_; clear n0_ n1_ n2_; (try clear hb); (try clear hb2); (try clear hk); (try clear hi); (try clear ho0)))
    go_loopg [11, 12] k (fun kq v11 v12 w' => ∃ (x11_1 : List Int) (x12_1 : Int), v12 = .int .i64 x12_1 ∧ Aside0 (saronref06_Can.l0 kq a2 t285 x11_1 x12_1 a0_0 a0_1 a0_2 l0_3 = some (r1, r2)) ∧ Aside0 (kq ≤ k) ∧ Aside0 (Kd.S (Kd.slice 61 k61) 44 w' w.heap.size (fun _ => True) v286 t285) ∧ Aside0 (Kd.R (Kd.int .i64) 3 w' w.heap.size (fun _ => True) v11 x11_1) ∧ Aside0 (w'.heap[gb282]? = some (.cells #[.int .i64 a0_0, .int .i64 a0_1, .int .i64 a0_2, (.slice A0_3 l0_3.length c0_3)] 24 (0, 0))) ∧ Aside0 (Below w.heap.size w w'))
    case atStart => exact ⟨(([] : List Int)), (0), ze, H', ⟨Nat.le_refl _⟩, ⟨zS HO287⟩, ⟨by first | exact Kd.R_nil _ _ _ _ _ | exact Kd.N_nil _ _ _ _ _ | exact Kd.V_nil _ _ _ _ _ | exact Kd.Q_nil _ _ _ _ _ | exact Kd.S_nil _ _ _ _ _⟩, ⟨zc BK282⟩, ⟨zb⟩⟩
    case round =>
     clear H'
     try clear c1
     try clear c2
     try clear p2
     try clear c4
     try clear c5
     try clear c5b0
     try clear c5b1
     try clear c6
     try clear p6
     try clear c7
     try clear c9
     try clear hcz11_0
     try clear hcz11_1
     try clear hcz11_2
     try clear hcz11_3
     try clear hcz13_0
     try clear hcz13_1
     try clear hcz13_2
     try clear hcz13_3
     try clear hfz11_0
     try clear hfz11_1
     try clear hfz11_2
     try clear hfz11_3
     try clear hfz13_0
     try clear hfz13_1
     try clear hfz13_2
     try clear hfz13_3
     obtain ⟨x11_1, x12_1, rfl, HA, HK1, HO_9, HO_11, BK282, HB⟩ := hrel
     cases gk with
     | zero => exact absurd HA.out (by simp [saronref06_Can.l0])
     | succ k1 =>
      have H := HA.out
      clear HA
      simp only [saronref06_Can.l0] at H
      replace H := Option.bind_eq_some_iff.mp H
      obtain ⟨t289, A150, H⟩ := H
      replace H : (if x12_1 < t289 then (saronref06_Can.l1 k1 a2 t285 x11_1 x12_1 false 0 a0_0 a0_1 a0_2 l0_3) else (some (x11_1, 0))) = some (r1, r2) := H
      have A15 := zh A150
      clear A150
      by_cases c16 : x12_1 < t289
      ·rw [if_pos c16] at H
       have c16b0 : decide (x12_1 < t289) = true := decide_eq_true c16
       clear c16
       have H' := zh H
       clear H
       have hcz17_0 : wr.cell? ⟨gb282, 0, none⟩ = some (.int .i64 a0_0) := vb BK282 0
       have hcz17_1 : wr.cell? ⟨gb282, 1, none⟩ = some (.int .i64 a0_1) := vb BK282 1
       have hcz17_2 : wr.cell? ⟨gb282, 2, none⟩ = some (.int .i64 a0_2) := vb BK282 2
       have hcz17_3 : wr.cell? ⟨gb282, 3, none⟩ = some (.slice A0_3 l0_3.length c0_3) := vb BK282 3
       have hfz17_0 := blk_frozen BK282.out 0
       have hfz17_1 := blk_frozen BK282.out 1
       have hfz17_2 := blk_frozen BK282.out 2
       have hfz17_3 := blk_frozen BK282.out 3
       go_wp2_with (first | ((with_reducible refine gate_callee (f := 58) rfl ?_); refine goesL_ (some 37) rfl rfl Tryd.func58 zk rfl #[.agg #[.int .i64 a0_0, .int .i64 a0_1, .int .i64 a0_2, .slice A0_3 l0_3.length c0_3]] rfl zm ?_; (with_reducible refine (saronref06_tones.calls a0_0 a0_1 a0_2 _ _ l0_3 t289 _ ?side1 ?side2 A15.out).mono ?_); (case side1 => repeat (first | exact (Kd.C_below HR0_3.out HB.out) | (with_reducible refine Kd.C_alloc ?_ _) | (with_reducible refine Kd.C_drewN ?_ _) | (with_reducible refine Kd.C_drew ?_))); (case side2 => exact HC0_3.out); rintro e w18 ⟨rfl, hb⟩; refine ⟨_, rfl, ?_⟩; have n0_ := zh (Kd.S_below (zS HO_9) hb); have n1_ := zh (Kd.R_below (zR HO_11) hb); have n2_ := zh (blk_below (g := gb282) (o := .cells #[.int .i64 a0_0, .int .i64 a0_1, .int .i64 a0_2, .slice A0_3 l0_3.length c0_3] 24 (0, 0)) (zc BK282) hb); have n3_ := zh (below_step zb hb); clear HO_9; clear HO_11; clear BK282; clear HB; have HO_9 := n0_; have HO_11 := n1_; have BK282 := n2_; have HB := n3_; clear n0_ n1_ n2_ n3_; (try clear hb); (try clear hb2); (try clear hk); (try clear hi)))
       go_loopg [13, 14] k1 (fun kq v13 v14 w' => ∃ (x13_2 : Bool) (x14_2 : Int), v13 = .bool x13_2 ∧ v14 = .int .i64 x14_2 ∧ Aside0 (saronref06_Can.l1 kq a2 t285 x11_1 x12_1 x13_2 x14_2 a0_0 a0_1 a0_2 l0_3 = some (r1, r2)) ∧ Aside0 (kq ≤ k1) ∧ Aside0 (Kd.S (Kd.slice 61 k61) 44 w' w.heap.size (fun _ => True) v286 t285) ∧ Aside0 (Kd.R (Kd.int .i64) 3 w' w.heap.size (fun _ => True) u11 x11_1) ∧ Aside0 (w'.heap[gb282]? = some (.cells #[.int .i64 a0_0, .int .i64 a0_1, .int .i64 a0_2, (.slice A0_3 l0_3.length c0_3)] 24 (0, 0))) ∧ Aside0 (Below w.heap.size w w'))
       case atStart => exact ⟨(false), (0), ze, ze, H', ⟨Nat.le_refl _⟩, ⟨zS HO_9⟩, ⟨zR HO_11⟩, ⟨zc BK282⟩, ⟨zb⟩⟩
       case round =>
        clear H'
        try clear c1
        try clear c2
        try clear p2
        try clear c4
        try clear c5
        try clear c5b0
        try clear c5b1
        try clear c6
        try clear p6
        try clear c7
        try clear c9
        try clear c16
        try clear c16b0
        try clear hcz11_0
        try clear hcz11_1
        try clear hcz11_2
        try clear hcz11_3
        try clear hcz13_0
        try clear hcz13_1
        try clear hcz13_2
        try clear hcz13_3
        try clear hcz17_0
        try clear hcz17_1
        try clear hcz17_2
        try clear hcz17_3
        try clear hfz11_0
        try clear hfz11_1
        try clear hfz11_2
        try clear hfz11_3
        try clear hfz13_0
        try clear hfz13_1
        try clear hfz13_2
        try clear hfz13_3
        try clear hfz17_0
        try clear hfz17_1
        try clear hfz17_2
        try clear hfz17_3
        try clear p2
        try clear p6
        obtain ⟨x13_2, x14_2, rfl, rfl, HA, HK2, HO_9, HO_11, BK282, HB⟩ := hrel
        cases gk with
        | zero => exact absurd HA.out (by simp [saronref06_Can.l1])
        | succ k2 =>
         have H := HA.out
         clear HA
         simp only [saronref06_Can.l1] at H
         obtain ⟨ji19, hji19⟩ : ∃ j_ : Int, (wrap64 (Int.tdiv a2 2)) = j_ := ⟨_, rfl⟩
         replace H : (if 0 ≤ (ji19) then (if (ji19) < (t285.length : Int) then (if x14_2 < ((rd_L9 t285 (ji19)).length : Int) then (if x13_2 = true then (saronref06_Can.l1 k2 a2 t285 x11_1 x12_1 true (wrap64 (x14_2 + 1)) a0_0 a0_1 a0_2 l0_3) else (if 0 ≤ x14_2 then (if (Int.tmod a2 2) = 0 then (saronref06_Can.l1 k2 a2 t285 x11_1 x12_1 (((rd_T61 (rd_L9 t285 (ji19)) x14_2).f0) == x12_1) (wrap64 (x14_2 + 1)) a0_0 a0_1 a0_2 l0_3) else (if (Int.tmod a2 2) = 1 then (saronref06_Can.l1 k2 a2 t285 x11_1 x12_1 (((rd_T61 (rd_L9 t285 (ji19)) x14_2).f1) == x12_1) (wrap64 (x14_2 + 1)) a0_0 a0_1 a0_2 l0_3) else (none))) else (none))) else (if x13_2 = true then (if x11_1.length < 17592186044416 then (saronref06_Can.l0 k2 a2 t285 (x11_1 ++ [x12_1]) (wrap64 (x12_1 + 1)) a0_0 a0_1 a0_2 l0_3) else (none)) else (saronref06_Can.l0 k2 a2 t285 x11_1 (wrap64 (x12_1 + 1)) a0_0 a0_1 a0_2 l0_3))) else (none)) else (none)) = some (r1, r2) := by first | (rw [hji19] at H; exact H) | (simp only [hji19] at H ⊢; exact H)
         have hji19w : (IntKind.i64.wrap (Int.tdiv a2 2)) = ji19 := (i64_w _).trans hji19
         by_cases c20 : 0 ≤ (ji19)
         ·rw [if_pos c20] at H
          have c20b0 : decide (0 ≤ (ji19)) = true := decide_eq_true c20
          clear c20
          by_cases c21 : (ji19) < (t285.length : Int)
          ·rw [if_pos c21] at H
           have c21b0 : decide ((ji19) < (t285.length : Int)) = true := decide_eq_true c21
           clear c21
           by_cases c22 : x14_2 < ((rd_L9 t285 (ji19)).length : Int)
           ·rw [if_pos c22] at H
            have c22b0 : decide (x14_2 < ((rd_L9 t285 (ji19)).length : Int)) = true := decide_eq_true c22
            clear c22
            by_cases c23 : x13_2 = true
            ·subst c23
             have H1 : (saronref06_Can.l1 k2 a2 t285 x11_1 x12_1 true (wrap64 (x14_2 + 1)) a0_0 a0_1 a0_2 l0_3) = some (r1, r2) := by rw [if_pos rfl] at H; exact H
             clear H
             have H := H1
             clear H1
             have H' := zh H
             clear H
             obtain ⟨Ao24, co24, eo24⟩ := Kd.S_slice HO_9.out
             subst eo24
             have p290 : 0 ≤ ((ji19) : Int) := of_decide_eq_true zs
             have q290 : (ji19) < (t285.length : Int) := of_decide_eq_true zs
             obtain ⟨ad290, A290_0, c290_0, e290, hx290_0, hl290_0, hi290_0⟩ := at_L9 (Kd.S_reads' HO_9.out).2.2 (ji19) p290 q290
             cases e290
             obtain ⟨ce290, hce290, hMe290, hcc290⟩ := Kd.S_get HO_9.out [] (ji19) p290 dMa3
             obtain ⟨ve290_0, rfl, ge290_0⟩ := hMe290
             have hv290_0 := hcc290 0 _ rfl
             rw [Nat.add_zero, show ((Kd.slice 61 k61)).sz = 1 from rfl, Nat.mul_one] at hv290_0
             replace hv290_0 := Option.some.inj (hv290_0.symm.trans hx290_0)
             rw [hv290_0] at ge290_0
             have HL290_0 := zh (show Kd.R k61 61 _ _ _ _ (rd_L9 t285 (ji19)) from ge290_0)
             clear hv290_0 ge290_0 hcc290 hce290
             have HR290_0 := zh hi290_0
             have HC290_0 := zh hl290_0
             clear hi290_0 hl290_0
             replace p290 := eq_true p290
             replace q290 := eq_true q290
             go_wp2
             go_roundg k2
             case measure => have := HK1.out; have := HK2.out; omega
             case rel => exact ⟨(true), (wrap64 (x14_2 + 1)), ze, ze, H', ⟨zw HK1 HK2⟩, ⟨zS HO_9⟩, ⟨zR HO_11⟩, ⟨zc BK282⟩, ⟨zb⟩⟩
            ·replace c23 := Bool.eq_false_iff.mpr c23
             subst c23
             have H1 : (if 0 ≤ x14_2 then (if (Int.tmod a2 2) = 0 then (saronref06_Can.l1 k2 a2 t285 x11_1 x12_1 (((rd_T61 (rd_L9 t285 (ji19)) x14_2).f0) == x12_1) (wrap64 (x14_2 + 1)) a0_0 a0_1 a0_2 l0_3) else (if (Int.tmod a2 2) = 1 then (saronref06_Can.l1 k2 a2 t285 x11_1 x12_1 (((rd_T61 (rd_L9 t285 (ji19)) x14_2).f1) == x12_1) (wrap64 (x14_2 + 1)) a0_0 a0_1 a0_2 l0_3) else (none))) else (none)) = some (r1, r2) := by rw [if_neg (show ¬ (false = true) by decide)] at H; exact H
             clear H
             have H := H1
             clear H1
             by_cases c25 : 0 ≤ x14_2
             ·rw [if_pos c25] at H
              have c25b0 : decide (0 ≤ x14_2) = true := decide_eq_true c25
              clear c25
              by_cases c26 : (Int.tmod a2 2) = 0
              ·rw [if_pos c26] at H
               have c26b0 : ((Int.tmod a2 2) == 0) = true := beq_iff_eq.mpr c26
               have c26b1 : ((Int.tmod a2 2) != 0) = false := bne_eq_false_iff_eq.mpr c26
               have H' := zh H
               clear H
               obtain ⟨Ao27, co27, eo27⟩ := Kd.S_slice HO_9.out
               subst eo27
               have p290 : 0 ≤ ((ji19) : Int) := of_decide_eq_true zs
               have q290 : (ji19) < (t285.length : Int) := of_decide_eq_true zs
               obtain ⟨ad290, A290_0, c290_0, e290, hx290_0, hl290_0, hi290_0⟩ := at_L9 (Kd.S_reads' HO_9.out).2.2 (ji19) p290 q290
               cases e290
               obtain ⟨ce290, hce290, hMe290, hcc290⟩ := Kd.S_get HO_9.out [] (ji19) p290 dMa3
               obtain ⟨ve290_0, rfl, ge290_0⟩ := hMe290
               have hv290_0 := hcc290 0 _ rfl
               rw [Nat.add_zero, show ((Kd.slice 61 k61)).sz = 1 from rfl, Nat.mul_one] at hv290_0
               replace hv290_0 := Option.some.inj (hv290_0.symm.trans hx290_0)
               rw [hv290_0] at ge290_0
               have HL290_0 := zh (show Kd.R k61 61 _ _ _ _ (rd_L9 t285 (ji19)) from ge290_0)
               clear hv290_0 ge290_0 hcc290 hce290
               have HR290_0 := zh hi290_0
               have HC290_0 := zh hl290_0
               clear hi290_0 hl290_0
               replace p290 := eq_true p290
               replace q290 := eq_true q290
               have p291 : 0 ≤ ((ji19) : Int) := of_decide_eq_true zs
               have q291 : (ji19) < (t285.length : Int) := of_decide_eq_true zs
               obtain ⟨ad291, A291_0, c291_0, e291, hx291_0, hl291_0, hi291_0⟩ := at_L9 (Kd.S_reads' HO_9.out).2.2 (ji19) p291 q291
               obtain rfl : ad290 = ad291 := (by injection e291)
               obtain ⟨ce291, hce291, hMe291, hcc291⟩ := Kd.S_get HO_9.out [] (ji19) p291 (by first | exact q291 | exact of_decide_eq_true zs | (have e_ := (Kd.S_reads' HO_9.out).1; omega))
               obtain ⟨ve291_0, rfl, ge291_0⟩ := hMe291
               have hv291_0 := hcc291 0 _ rfl
               rw [Nat.add_zero, show ((Kd.slice 61 k61)).sz = 1 from rfl, Nat.mul_one] at hv291_0
               replace hv291_0 := Option.some.inj (hv291_0.symm.trans hx291_0)
               rw [hv291_0] at ge291_0
               have HL291_0 := zh (show Kd.R k61 61 _ _ _ _ (rd_L9 t285 (ji19)) from ge291_0)
               clear hv291_0 ge291_0 hcc291 hce291
               have HR291_0 := zh hi291_0
               have HC291_0 := zh hl291_0
               clear hi291_0 hl291_0
               replace p291 := eq_true p291
               replace q291 := eq_true q291
               have ea_ := Option.some.inj (hx290_0.symm.trans hx291_0)
               injection ea_ with ea_ en_ ec_
               subst ea_
               subst ec_
               clear en_
               have p292 : 0 ≤ (x14_2 : Int) := of_decide_eq_true zs
               have q292 : x14_2 < ((rd_L9 t285 (ji19)).length : Int) := of_decide_eq_true zs
               obtain ⟨ad292, e292, hx292_0, hx292_1⟩ := at_T61 (by repeat (first | (with_reducible exact HR291_0.out) | (with_reducible refine Kd.C_alloc ?_ _) | (with_reducible refine Kd.C_drewN ?_ _) | (with_reducible refine Kd.C_drew ?_) | exact HR291_0.out)) x14_2 p292 q292
               cases e292
               replace p292 := eq_true p292
               replace q292 := eq_true q292
               go_wp2
               go_roundg k2
               case measure => have := HK1.out; have := HK2.out; omega
               case rel => exact ⟨((((rd_T61 (rd_L9 t285 (ji19)) x14_2).f0) == x12_1)), (wrap64 (x14_2 + 1)), (by first | rfl | (simp; done) | (simp only [← hji19] <;> (first | rfl | simp)) | (simp [*]; done)), ze, H', ⟨zw HK1 HK2⟩, ⟨zS HO_9⟩, ⟨zR HO_11⟩, ⟨zc BK282⟩, ⟨zb⟩⟩
              ·rw [if_neg c26] at H
               have c26b0 : ((Int.tmod a2 2) == 0) = false := beq_eq_false_iff_ne.mpr c26
               have c26b1 : ((Int.tmod a2 2) != 0) = true := bne_iff_ne.mpr c26
               by_cases c28 : (Int.tmod a2 2) = 1
               ·rw [if_pos c28] at H
                have c28b0 : ((Int.tmod a2 2) == 1) = true := beq_iff_eq.mpr c28
                have c28b1 : ((Int.tmod a2 2) != 1) = false := bne_eq_false_iff_eq.mpr c28
                have H' := zh H
                clear H
                obtain ⟨Ao29, co29, eo29⟩ := Kd.S_slice HO_9.out
                subst eo29
                have p290 : 0 ≤ ((ji19) : Int) := of_decide_eq_true zs
                have q290 : (ji19) < (t285.length : Int) := of_decide_eq_true zs
                obtain ⟨ad290, A290_0, c290_0, e290, hx290_0, hl290_0, hi290_0⟩ := at_L9 (Kd.S_reads' HO_9.out).2.2 (ji19) p290 q290
                cases e290
                obtain ⟨ce290, hce290, hMe290, hcc290⟩ := Kd.S_get HO_9.out [] (ji19) p290 dMa3
                obtain ⟨ve290_0, rfl, ge290_0⟩ := hMe290
                have hv290_0 := hcc290 0 _ rfl
                rw [Nat.add_zero, show ((Kd.slice 61 k61)).sz = 1 from rfl, Nat.mul_one] at hv290_0
                replace hv290_0 := Option.some.inj (hv290_0.symm.trans hx290_0)
                rw [hv290_0] at ge290_0
                have HL290_0 := zh (show Kd.R k61 61 _ _ _ _ (rd_L9 t285 (ji19)) from ge290_0)
                clear hv290_0 ge290_0 hcc290 hce290
                have HR290_0 := zh hi290_0
                have HC290_0 := zh hl290_0
                clear hi290_0 hl290_0
                replace p290 := eq_true p290
                replace q290 := eq_true q290
                have p291 : 0 ≤ ((ji19) : Int) := of_decide_eq_true zs
                have q291 : (ji19) < (t285.length : Int) := of_decide_eq_true zs
                obtain ⟨ad291, A291_0, c291_0, e291, hx291_0, hl291_0, hi291_0⟩ := at_L9 (Kd.S_reads' HO_9.out).2.2 (ji19) p291 q291
                obtain rfl : ad290 = ad291 := (by injection e291)
                obtain ⟨ce291, hce291, hMe291, hcc291⟩ := Kd.S_get HO_9.out [] (ji19) p291 (by first | exact q291 | exact of_decide_eq_true zs | (have e_ := (Kd.S_reads' HO_9.out).1; omega))
                obtain ⟨ve291_0, rfl, ge291_0⟩ := hMe291
                have hv291_0 := hcc291 0 _ rfl
                rw [Nat.add_zero, show ((Kd.slice 61 k61)).sz = 1 from rfl, Nat.mul_one] at hv291_0
                replace hv291_0 := Option.some.inj (hv291_0.symm.trans hx291_0)
                rw [hv291_0] at ge291_0
                have HL291_0 := zh (show Kd.R k61 61 _ _ _ _ (rd_L9 t285 (ji19)) from ge291_0)
                clear hv291_0 ge291_0 hcc291 hce291
                have HR291_0 := zh hi291_0
                have HC291_0 := zh hl291_0
                clear hi291_0 hl291_0
                replace p291 := eq_true p291
                replace q291 := eq_true q291
                have ea_ := Option.some.inj (hx290_0.symm.trans hx291_0)
                injection ea_ with ea_ en_ ec_
                subst ea_
                subst ec_
                clear en_
                have p292 : 0 ≤ (x14_2 : Int) := of_decide_eq_true zs
                have q292 : x14_2 < ((rd_L9 t285 (ji19)).length : Int) := of_decide_eq_true zs
                obtain ⟨ad292, e292, hx292_0, hx292_1⟩ := at_T61 (by repeat (first | (with_reducible exact HR291_0.out) | (with_reducible refine Kd.C_alloc ?_ _) | (with_reducible refine Kd.C_drewN ?_ _) | (with_reducible refine Kd.C_drew ?_) | exact HR291_0.out)) x14_2 p292 q292
                cases e292
                replace p292 := eq_true p292
                replace q292 := eq_true q292
                go_wp2
                go_roundg k2
                case measure => have := HK1.out; have := HK2.out; omega
                case rel => exact ⟨((((rd_T61 (rd_L9 t285 (ji19)) x14_2).f1) == x12_1)), (wrap64 (x14_2 + 1)), (by first | rfl | (simp; done) | (simp only [← hji19] <;> (first | rfl | simp)) | (simp [*]; done)), ze, H', ⟨zw HK1 HK2⟩, ⟨zS HO_9⟩, ⟨zR HO_11⟩, ⟨zc BK282⟩, ⟨zb⟩⟩
               ·rw [if_neg c28] at H
                exact absurd H (by simp)
             ·rw [if_neg c25] at H
              exact absurd H (by simp)
           ·rw [if_neg c22] at H
            have c22b0 : decide (x14_2 < ((rd_L9 t285 (ji19)).length : Int)) = false := decide_eq_false c22
            clear c22
            by_cases c30 : x13_2 = true
            ·subst c30
             have H1 : (if x11_1.length < 17592186044416 then (saronref06_Can.l0 k2 a2 t285 (x11_1 ++ [x12_1]) (wrap64 (x12_1 + 1)) a0_0 a0_1 a0_2 l0_3) else (none)) = some (r1, r2) := by rw [if_pos rfl] at H; exact H
             clear H
             have H := H1
             clear H1
             by_cases c31 : x11_1.length < 17592186044416
             ·rw [if_pos c31] at H
              have LMc31 := zh c31
              clear c31
              obtain ⟨y293, hy293⟩ : ∃ y_ : List Int, y_ = (x11_1 ++ [x12_1]) := ⟨_, rfl⟩
              replace H : (saronref06_Can.l0 k2 a2 t285 y293 (wrap64 (x12_1 + 1)) a0_0 a0_1 a0_2 l0_3) = some (r1, r2) := by first | (rw [hy293]; with_reducible exact H) | (have H2_ := (Option.bind_some _ _).symm.trans H; rw [hy293]; with_reducible exact H2_) | (have H2_ := (Option.bind_some _ _).symm.trans H; with_reducible exact H2_) | with_reducible exact H | (rw [hy293]; exact H) | exact H
              have Ny293 := zh hy293
              clear hy293
              have H' := zh H
              clear H
              obtain ⟨Ao32, co32, eo32⟩ := Kd.S_slice HO_9.out
              subst eo32
              have p290 : 0 ≤ ((ji19) : Int) := of_decide_eq_true zs
              have q290 : (ji19) < (t285.length : Int) := of_decide_eq_true zs
              obtain ⟨ad290, A290_0, c290_0, e290, hx290_0, hl290_0, hi290_0⟩ := at_L9 (Kd.S_reads' HO_9.out).2.2 (ji19) p290 q290
              cases e290
              obtain ⟨ce290, hce290, hMe290, hcc290⟩ := Kd.S_get HO_9.out [] (ji19) p290 dMa3
              obtain ⟨ve290_0, rfl, ge290_0⟩ := hMe290
              have hv290_0 := hcc290 0 _ rfl
              rw [Nat.add_zero, show ((Kd.slice 61 k61)).sz = 1 from rfl, Nat.mul_one] at hv290_0
              replace hv290_0 := Option.some.inj (hv290_0.symm.trans hx290_0)
              rw [hv290_0] at ge290_0
              have HL290_0 := zh (show Kd.R k61 61 _ _ _ _ (rd_L9 t285 (ji19)) from ge290_0)
              clear hv290_0 ge290_0 hcc290 hce290
              have HR290_0 := zh hi290_0
              have HC290_0 := zh hl290_0
              clear hi290_0 hl290_0
              replace p290 := eq_true p290
              replace q290 := eq_true q290
              go_wp2_with (first | ((with_reducible refine gate_builtin (b := .append) (xs := #[.tmp 68, .tmp 70]) rfl ?_); at_builtin; refine Kd.R_append (Kd.int .i64) (w0 := w) w.heap.size rfl (.tmp 68) (.tmp 70) 25 3 (.int .i64 0) 8 rfl Tryd.underlying25 info3 rfl (by decide) (by omega) u11 x11_1 x12_1 [.int .i64 x12_1] (fun _ => True) (fun _ => False) rfl rfl ?aP (fun _ hk => hk.elim) ?aF ?aO ?aB ?aS ?aL ?_; (case aP => exact rfl); (case aB => exact zb); (case aF => exact (fun _ _ => trivial)); (case aO => exact (zR HO_11)); (case aS => exact (below_size zb)); (case aL => have := LMc31.out; omega); intro v294 w33 ho hb hg hat; rw [← Ny293.out] at ho; have n0_ := zh (Kd.S_over' (zS HO_9) (Kd.R_typed (zR HO_11)) (by decide) hg); have n1_ := zh (blk_grown (g := gb282) (o := .cells #[.int .i64 a0_0, .int .i64 a0_1, .int .i64 a0_2, .slice A0_3 l0_3.length c0_3] 24 (0, 0)) (zc BK282) hg (Kd.R_ne HO_11.out BK282.out (by decide))); have n2_ := zh (Kd.R_over' (by (with_reducible repeat (first | apply Kd.R_alloc | apply Kd.R_drewN | apply Kd.R_drew)); exact HL290_0.out) (Kd.R_typed (zR HO_11)) (by decide) hg); have n3_ := zh (hb); have n4_ := zh (ho); clear HO_9; clear BK282; clear HL290_0; clear HB; clear HO_11; have HO_9 := n0_; have BK282 := n1_; have HL290_0 := n2_; have HB := n3_; have HO295 := n4_; clear n0_ n1_ n2_ n3_ n4_; clear ho hb hg hat))
              go_roundg k2
              case measure => have := HK1.out; have := HK2.out; omega
              case rel => exact ⟨(y293), (wrap64 (x12_1 + 1)), ze, H', ⟨zw HK1 HK2⟩, ⟨zS HO_9⟩, ⟨zR HO295⟩, ⟨zc BK282⟩, ⟨zb⟩⟩
             ·rw [if_neg c31] at H
              exact absurd H (by simp)
            ·replace c30 := Bool.eq_false_iff.mpr c30
             subst c30
             have H1 : (saronref06_Can.l0 k2 a2 t285 x11_1 (wrap64 (x12_1 + 1)) a0_0 a0_1 a0_2 l0_3) = some (r1, r2) := by rw [if_neg (show ¬ (false = true) by decide)] at H; exact H
             clear H
             have H := H1
             clear H1
             have H' := zh H
             clear H
             obtain ⟨Ao34, co34, eo34⟩ := Kd.S_slice HO_9.out
             subst eo34
             have p290 : 0 ≤ ((ji19) : Int) := of_decide_eq_true zs
             have q290 : (ji19) < (t285.length : Int) := of_decide_eq_true zs
             obtain ⟨ad290, A290_0, c290_0, e290, hx290_0, hl290_0, hi290_0⟩ := at_L9 (Kd.S_reads' HO_9.out).2.2 (ji19) p290 q290
             cases e290
             obtain ⟨ce290, hce290, hMe290, hcc290⟩ := Kd.S_get HO_9.out [] (ji19) p290 dMa3
             obtain ⟨ve290_0, rfl, ge290_0⟩ := hMe290
             have hv290_0 := hcc290 0 _ rfl
             rw [Nat.add_zero, show ((Kd.slice 61 k61)).sz = 1 from rfl, Nat.mul_one] at hv290_0
             replace hv290_0 := Option.some.inj (hv290_0.symm.trans hx290_0)
             rw [hv290_0] at ge290_0
             have HL290_0 := zh (show Kd.R k61 61 _ _ _ _ (rd_L9 t285 (ji19)) from ge290_0)
             clear hv290_0 ge290_0 hcc290 hce290
             have HR290_0 := zh hi290_0
             have HC290_0 := zh hl290_0
             clear hi290_0 hl290_0
             replace p290 := eq_true p290
             replace q290 := eq_true q290
             go_wp2
             go_roundg k2
             case measure => have := HK1.out; have := HK2.out; omega
             case rel => exact ⟨(x11_1), (wrap64 (x12_1 + 1)), ze, H', ⟨zw HK1 HK2⟩, ⟨zS HO_9⟩, ⟨zR HO_11⟩, ⟨zc BK282⟩, ⟨zb⟩⟩
          ·rw [if_neg c21] at H
           exact absurd H (by simp)
         ·rw [if_neg c20] at H
          exact absurd H (by simp)
      ·rw [if_neg c16] at H
       have c16b0 : decide (x12_1 < t289) = false := decide_eq_false c16
       clear c16
       simp only [Option.some.injEq, Prod.mk.injEq] at H
       obtain ⟨rfl, rfl⟩ := H
       have hcz35_0 : wr.cell? ⟨gb282, 0, none⟩ = some (.int .i64 a0_0) := vb BK282 0
       have hcz35_1 : wr.cell? ⟨gb282, 1, none⟩ = some (.int .i64 a0_1) := vb BK282 1
       have hcz35_2 : wr.cell? ⟨gb282, 2, none⟩ = some (.int .i64 a0_2) := vb BK282 2
       have hcz35_3 : wr.cell? ⟨gb282, 3, none⟩ = some (.slice A0_3 l0_3.length c0_3) := vb BK282 3
       have hfz35_0 := blk_frozen BK282.out 0
       have hfz35_1 := blk_frozen BK282.out 1
       have hfz35_2 := blk_frozen BK282.out 2
       have hfz35_3 := blk_frozen BK282.out 3
       go_wp2_with (first | ((with_reducible refine gate_callee (f := 58) rfl ?_); refine goesL_ (some 37) rfl rfl Tryd.func58 zk rfl #[.agg #[.int .i64 a0_0, .int .i64 a0_1, .int .i64 a0_2, .slice A0_3 l0_3.length c0_3]] rfl zm ?_; (with_reducible refine (saronref06_tones.calls a0_0 a0_1 a0_2 _ _ l0_3 t289 _ ?side1 ?side2 A15.out).mono ?_); (case side1 => repeat (first | exact (Kd.C_below HR0_3.out HB.out) | (with_reducible refine Kd.C_alloc ?_ _) | (with_reducible refine Kd.C_drewN ?_ _) | (with_reducible refine Kd.C_drew ?_))); (case side2 => exact HC0_3.out); rintro e w36 ⟨rfl, hb⟩; refine ⟨_, rfl, ?_⟩; have n0_ := zh (Kd.S_below (zS HO_9) hb); have n1_ := zh (Kd.R_below (zR HO_11) hb); have n2_ := zh (blk_below (g := gb282) (o := .cells #[.int .i64 a0_0, .int .i64 a0_1, .int .i64 a0_2, .slice A0_3 l0_3.length c0_3] 24 (0, 0)) (zc BK282) hb); have n3_ := zh (below_step zb hb); clear HO_9; clear HO_11; clear BK282; clear HB; have HO_9 := n0_; have HO_11 := n1_; have BK282 := n2_; have HB := n3_; clear n0_ n1_ n2_ n3_; (try clear hb); (try clear hb2); (try clear hk); (try clear hi)))
       go_ret2
       exact ⟨_, zf, (zR HO_11), zb⟩
   ·replace c9 := Bool.eq_false_iff.mpr c9
    subst c9
    have H1 : (some (([] : List Int), 62)) = some (r1, r2) := by rw [if_neg (show ¬ (false = true) by decide)] at H; exact H
    clear H
    have H := H1
    clear H1
    simp only [Option.some.injEq, Prod.mk.injEq] at H
    obtain ⟨rfl, rfl⟩ := H
    go_enter Tryd.func25, Tryd.ntmps25
    go_wp2_with (first | ((with_reducible refine gate_dst (N := 3) rfl ?_); refine box_event ?hg (N := 3) ?hd (cs := #[.int .i64 a0_0, .int .i64 a0_1, .int .i64 a0_2, .slice A0_3 l0_3.length c0_3]) (t := 24) ?hr ?_; (case hd => rfl); (case hg => rfl); (case hr => first | (go_simp; done) | (go_simp; rfl)); intro gb282 hg w37 hbox hb; have n0_ := zh (below_step zb hb); have n1_ := zh (hbox); have n2_ := zh ((by rw [hg]; exact (below_size zb) : w.heap.size ≤ gb282)); have n3_ := zh ((by rw [hg]; exact (below_size zb) : w.heap.size ≤ gb282)); clear HB; have HB := n0_; have BK282 := n1_; have GW282 := n2_; have GE282 := n3_; clear n0_ n1_ n2_ n3_; clear hb hbox hg; have hcz38_0 : w37.cell? ⟨gb282, 0, none⟩ = some (.int .i64 a0_0) := vb BK282 0; have hcz38_1 : w37.cell? ⟨gb282, 1, none⟩ = some (.int .i64 a0_1) := vb BK282 1; have hcz38_2 : w37.cell? ⟨gb282, 2, none⟩ = some (.int .i64 a0_2) := vb BK282 2; have hcz38_3 : w37.cell? ⟨gb282, 3, none⟩ = some (.slice A0_3 l0_3.length c0_3) := vb BK282 3; have hfz38_0 := blk_frozen BK282.out 0; have hfz38_1 := blk_frozen BK282.out 1; have hfz38_2 := blk_frozen BK282.out 2; have hfz38_3 := blk_frozen BK282.out 3) | ((with_reducible refine gate_callee (f := 66) rfl ?_); refine goesL_ (some 17) rfl rfl Tryd.func66 zk rfl #[.agg #[.int .i64 a0_0, .int .i64 a0_1, .int .i64 a0_2, .slice A0_3 l0_3.length c0_3], .slice A1 l1.length c1] rfl zm ?_; (with_reducible refine (saronref06_asked.calls k a0_0 a0_1 a0_2 _ _ l0_3 _ _ l1 t283 _ ?side1 ?side2 ?side3 ?side4 A4.out).mono ?_); (case side1 => repeat (first | exact (Kd.C_below HR0_3.out HB.out) | (with_reducible refine Kd.C_alloc ?_ _) | (with_reducible refine Kd.C_drewN ?_ _) | (with_reducible refine Kd.C_drew ?_))); (case side2 => exact HC0_3.out); (case side3 => repeat (first | exact (Kd.C_below HR1.out HB.out) | (with_reducible refine Kd.C_alloc ?_ _) | (with_reducible refine Kd.C_drewN ?_ _) | (with_reducible refine Kd.C_drew ?_))); (case side4 => exact HC1.out); rintro e w39 ⟨rfl, hb⟩; refine ⟨_, rfl, ?_⟩; have n0_ := zh (blk_below (g := gb282) (o := .cells #[.int .i64 a0_0, .int .i64 a0_1, .int .i64 a0_2, .slice A0_3 l0_3.length c0_3] 24 (0, 0)) (zc BK282) hb); have n1_ := zh (below_step zb hb); clear BK282; clear HB; have BK282 := n0_; have HB := n1_; clear n0_ n1_; (try clear hb); (try clear hb2); (try clear hk); (try clear hi); have hcz40_0 : w39.cell? ⟨gb282, 0, none⟩ = some (.int .i64 a0_0) := vb BK282 0; have hcz40_1 : w39.cell? ⟨gb282, 1, none⟩ = some (.int .i64 a0_1) := vb BK282 1; have hcz40_2 : w39.cell? ⟨gb282, 2, none⟩ = some (.int .i64 a0_2) := vb BK282 2; have hcz40_3 : w39.cell? ⟨gb282, 3, none⟩ = some (.slice A0_3 l0_3.length c0_3) := vb BK282 3; have hfz40_0 := blk_frozen BK282.out 0; have hfz40_1 := blk_frozen BK282.out 1; have hfz40_2 := blk_frozen BK282.out 2; have hfz40_3 := blk_frozen BK282.out 3) | ((with_reducible refine gate_callee (f := 45) rfl ?_); refine goesL_ (some 25) rfl rfl Tryd.func45 zk rfl #[.int .i64 a2, .int .i64 0, .int .i64 (wrap64 (a0_2 - 1))] rfl zm ?_; (with_reducible refine (saronref00_Sits.calls a2 0 (wrap64 (a0_2 - 1)) true _ A6.out).mono ?_); rintro e w' ⟨rfl, ⟨nd, rfl⟩⟩; refine ⟨_, rfl, ?_⟩) | ((with_reducible refine gate_callee (f := 67) rfl ?_); refine goesL_ (some 30) rfl rfl Tryd.func67 zk rfl #[.agg #[.int .i64 a0_0, .int .i64 a0_1, .int .i64 a0_2, .slice A0_3 l0_3.length c0_3], .slice A1 l1.length c1] rfl zm ?_; (with_reducible refine (saronref06_all.calls k a0_0 a0_1 a0_2 _ _ l0_3 _ _ l1 t285 false _ ?side1 ?side2 ?side3 ?side4 A8.out).mono ?_); (case side1 => repeat (first | exact (Kd.C_below HR0_3.out zb) | (with_reducible refine Kd.C_alloc ?_ _) | (with_reducible refine Kd.C_drewN ?_ _) | (with_reducible refine Kd.C_drew ?_))); (case side2 => exact HC0_3.out); (case side3 => repeat (first | exact (Kd.C_below HR1.out zb) | (with_reducible refine Kd.C_alloc ?_ _) | (with_reducible refine Kd.C_drewN ?_ _) | (with_reducible refine Kd.C_drew ?_))); (case side4 => exact HC1.out); rintro e w41 ⟨v286, rfl, ho0, hb⟩; refine ⟨_, rfl, ?_⟩; have n0_ := zh (Kd.S_lower ho0 (below_size zb)); have n1_ := zh (blk_below (g := gb282) (o := .cells #[.int .i64 a0_0, .int .i64 a0_1, .int .i64 a0_2, .slice A0_3 l0_3.length c0_3] 24 (0, 0)) (zc BK282) hb); have n2_ := zh (below_step zb hb); clear BK282; clear HB; have HO287 := n0_; have BK282 := n1_; have HB := n2_; clear n0_ n1_ n2_; (try clear hb); (try clear hb2); (try clear hk); (try clear hi); (try clear ho0)))
    go_ret2
    exact ⟨_, zf, by first | exact Kd.R_nil _ _ _ _ _ | exact Kd.N_nil _ _ _ _ _ | exact Kd.V_nil _ _ _ _ _ | exact Kd.Q_nil _ _ _ _ _ | exact Kd.S_nil _ _ _ _ _, zb⟩
  ·replace c7 := Bool.eq_false_iff.mpr c7
   subst c7
   have H1 : (some (([] : List Int), 61)) = some (r1, r2) := by rw [if_neg (show ¬ (false = true) by decide)] at H; exact H
   clear H
   have H := H1
   clear H1
   simp only [Option.some.injEq, Prod.mk.injEq] at H
   obtain ⟨rfl, rfl⟩ := H
   go_enter Tryd.func25, Tryd.ntmps25
   go_wp2_with (first | ((with_reducible refine gate_dst (N := 3) rfl ?_); refine box_event ?hg (N := 3) ?hd (cs := #[.int .i64 a0_0, .int .i64 a0_1, .int .i64 a0_2, .slice A0_3 l0_3.length c0_3]) (t := 24) ?hr ?_; (case hd => rfl); (case hg => rfl); (case hr => first | (go_simp; done) | (go_simp; rfl)); intro gb282 hg w42 hbox hb; have n0_ := zh (below_step zb hb); have n1_ := zh (hbox); have n2_ := zh ((by rw [hg]; exact (below_size zb) : w.heap.size ≤ gb282)); have n3_ := zh ((by rw [hg]; exact (below_size zb) : w.heap.size ≤ gb282)); clear HB; have HB := n0_; have BK282 := n1_; have GW282 := n2_; have GE282 := n3_; clear n0_ n1_ n2_ n3_; clear hb hbox hg; have hcz43_0 : w42.cell? ⟨gb282, 0, none⟩ = some (.int .i64 a0_0) := vb BK282 0; have hcz43_1 : w42.cell? ⟨gb282, 1, none⟩ = some (.int .i64 a0_1) := vb BK282 1; have hcz43_2 : w42.cell? ⟨gb282, 2, none⟩ = some (.int .i64 a0_2) := vb BK282 2; have hcz43_3 : w42.cell? ⟨gb282, 3, none⟩ = some (.slice A0_3 l0_3.length c0_3) := vb BK282 3; have hfz43_0 := blk_frozen BK282.out 0; have hfz43_1 := blk_frozen BK282.out 1; have hfz43_2 := blk_frozen BK282.out 2; have hfz43_3 := blk_frozen BK282.out 3) | ((with_reducible refine gate_callee (f := 66) rfl ?_); refine goesL_ (some 17) rfl rfl Tryd.func66 zk rfl #[.agg #[.int .i64 a0_0, .int .i64 a0_1, .int .i64 a0_2, .slice A0_3 l0_3.length c0_3], .slice A1 l1.length c1] rfl zm ?_; (with_reducible refine (saronref06_asked.calls k a0_0 a0_1 a0_2 _ _ l0_3 _ _ l1 t283 _ ?side1 ?side2 ?side3 ?side4 A4.out).mono ?_); (case side1 => repeat (first | exact (Kd.C_below HR0_3.out HB.out) | (with_reducible refine Kd.C_alloc ?_ _) | (with_reducible refine Kd.C_drewN ?_ _) | (with_reducible refine Kd.C_drew ?_))); (case side2 => exact HC0_3.out); (case side3 => repeat (first | exact (Kd.C_below HR1.out HB.out) | (with_reducible refine Kd.C_alloc ?_ _) | (with_reducible refine Kd.C_drewN ?_ _) | (with_reducible refine Kd.C_drew ?_))); (case side4 => exact HC1.out); rintro e w44 ⟨rfl, hb⟩; refine ⟨_, rfl, ?_⟩; have n0_ := zh (blk_below (g := gb282) (o := .cells #[.int .i64 a0_0, .int .i64 a0_1, .int .i64 a0_2, .slice A0_3 l0_3.length c0_3] 24 (0, 0)) (zc BK282) hb); have n1_ := zh (below_step zb hb); clear BK282; clear HB; have BK282 := n0_; have HB := n1_; clear n0_ n1_; (try clear hb); (try clear hb2); (try clear hk); (try clear hi); have hcz45_0 : w44.cell? ⟨gb282, 0, none⟩ = some (.int .i64 a0_0) := vb BK282 0; have hcz45_1 : w44.cell? ⟨gb282, 1, none⟩ = some (.int .i64 a0_1) := vb BK282 1; have hcz45_2 : w44.cell? ⟨gb282, 2, none⟩ = some (.int .i64 a0_2) := vb BK282 2; have hcz45_3 : w44.cell? ⟨gb282, 3, none⟩ = some (.slice A0_3 l0_3.length c0_3) := vb BK282 3; have hfz45_0 := blk_frozen BK282.out 0; have hfz45_1 := blk_frozen BK282.out 1; have hfz45_2 := blk_frozen BK282.out 2; have hfz45_3 := blk_frozen BK282.out 3) | ((with_reducible refine gate_callee (f := 45) rfl ?_); refine goesL_ (some 25) rfl rfl Tryd.func45 zk rfl #[.int .i64 a2, .int .i64 0, .int .i64 (wrap64 (a0_2 - 1))] rfl zm ?_; (with_reducible refine (saronref00_Sits.calls a2 0 (wrap64 (a0_2 - 1)) false _ A6.out).mono ?_); rintro e w' ⟨rfl, ⟨nd, rfl⟩⟩; refine ⟨_, rfl, ?_⟩))
   go_ret2
   exact ⟨_, zf, by first | exact Kd.R_nil _ _ _ _ _ | exact Kd.N_nil _ _ _ _ _ | exact Kd.V_nil _ _ _ _ _ | exact Kd.Q_nil _ _ _ _ _ | exact Kd.S_nil _ _ _ _ _, zb⟩
 ·rw [if_neg c5] at H
  have c5b0 : (t283 == 0) = false := beq_eq_false_iff_ne.mpr c5
  have c5b1 : (t283 != 0) = true := bne_iff_ne.mpr c5
  simp only [Option.some.injEq, Prod.mk.injEq] at H
  obtain ⟨rfl, rfl⟩ := H
  go_enter Tryd.func25, Tryd.ntmps25
  go_wp2_with (first | ((with_reducible refine gate_dst (N := 3) rfl ?_); refine box_event ?hg (N := 3) ?hd (cs := #[.int .i64 a0_0, .int .i64 a0_1, .int .i64 a0_2, .slice A0_3 l0_3.length c0_3]) (t := 24) ?hr ?_; (case hd => rfl); (case hg => rfl); (case hr => first | (go_simp; done) | (go_simp; rfl)); intro gb282 hg w46 hbox hb; have n0_ := zh (below_step zb hb); have n1_ := zh (hbox); have n2_ := zh ((by rw [hg]; exact (below_size zb) : w.heap.size ≤ gb282)); have n3_ := zh ((by rw [hg]; exact (below_size zb) : w.heap.size ≤ gb282)); clear HB; have HB := n0_; have BK282 := n1_; have GW282 := n2_; have GE282 := n3_; clear n0_ n1_ n2_ n3_; clear hb hbox hg; have hcz47_0 : w46.cell? ⟨gb282, 0, none⟩ = some (.int .i64 a0_0) := vb BK282 0; have hcz47_1 : w46.cell? ⟨gb282, 1, none⟩ = some (.int .i64 a0_1) := vb BK282 1; have hcz47_2 : w46.cell? ⟨gb282, 2, none⟩ = some (.int .i64 a0_2) := vb BK282 2; have hcz47_3 : w46.cell? ⟨gb282, 3, none⟩ = some (.slice A0_3 l0_3.length c0_3) := vb BK282 3; have hfz47_0 := blk_frozen BK282.out 0; have hfz47_1 := blk_frozen BK282.out 1; have hfz47_2 := blk_frozen BK282.out 2; have hfz47_3 := blk_frozen BK282.out 3) | ((with_reducible refine gate_callee (f := 66) rfl ?_); refine goesL_ (some 17) rfl rfl Tryd.func66 zk rfl #[.agg #[.int .i64 a0_0, .int .i64 a0_1, .int .i64 a0_2, .slice A0_3 l0_3.length c0_3], .slice A1 l1.length c1] rfl zm ?_; (with_reducible refine (saronref06_asked.calls k a0_0 a0_1 a0_2 _ _ l0_3 _ _ l1 t283 _ ?side1 ?side2 ?side3 ?side4 A4.out).mono ?_); (case side1 => repeat (first | exact (Kd.C_below HR0_3.out HB.out) | (with_reducible refine Kd.C_alloc ?_ _) | (with_reducible refine Kd.C_drewN ?_ _) | (with_reducible refine Kd.C_drew ?_))); (case side2 => exact HC0_3.out); (case side3 => repeat (first | exact (Kd.C_below HR1.out HB.out) | (with_reducible refine Kd.C_alloc ?_ _) | (with_reducible refine Kd.C_drewN ?_ _) | (with_reducible refine Kd.C_drew ?_))); (case side4 => exact HC1.out); rintro e w48 ⟨rfl, hb⟩; refine ⟨_, rfl, ?_⟩; have n0_ := zh (blk_below (g := gb282) (o := .cells #[.int .i64 a0_0, .int .i64 a0_1, .int .i64 a0_2, .slice A0_3 l0_3.length c0_3] 24 (0, 0)) (zc BK282) hb); have n1_ := zh (below_step zb hb); clear BK282; clear HB; have BK282 := n0_; have HB := n1_; clear n0_ n1_; (try clear hb); (try clear hb2); (try clear hk); (try clear hi)))
  go_ret2
  exact ⟨_, zf, by first | exact Kd.R_nil _ _ _ _ _ | exact Kd.N_nil _ _ _ _ _ | exact Kd.V_nil _ _ _ _ _ | exact Kd.Q_nil _ _ _ _ _ | exact Kd.S_nil _ _ _ _ _, zb⟩
end Go.Proofs.YtagkfkdoibnhfaaDoor.H
end
section
namespace Go.Proofs.YtagkfkdoibnhfaaDoor.K
open Go.RowKit Go.Proofs.YtagkfkdoibnhfaaDoorW.PrintWords Go.Proofs.YtagkfkdoibnhfaaDoorW.PrintMore Go.Proofs.YtagkfkdoibnhfaaDoor.H
def mk61 (q : Int × Int) : S61 := ⟨q.1, q.2⟩
def fitAt (T : Int) (R : List S66) (hs : List S60) (p : Nat) (q : Int × Int) : Bool := decide (miss T R hs (p : Int) q.1 q.2 = 0)
def chRow (T : Int) (R : List S66) (hs : List S60) (p m : Nat) (a b : Nat) : List S61 := (((irange (b : Int) ((m : Int) - 1)).map fun y => ((a : Int), y)).filter (fitAt T R hs p)).map mk61
def chFrom (T : Int) (R : List S66) (hs : List S60) (p m : Nat) (a : Nat) : List S61 := (((irange (a : Int) ((m : Int) - 1)).flatMap fun x => (irange 0 ((m : Int) - 1)).map fun y => (x, y)).filter (fitAt T R hs p)).map mk61
theorem chFrom_zero (T O : Int) (R : List S66) (hs : List S60) (p m : Nat) (hm : T * O = (m : Int)) : chFrom T R hs p m 0 = (choices T O R hs (p : Int)).map mk61 := by
 unfold chFrom choices pairsOf
 rw [hm]
 rfl
theorem chFrom_cons (T : Int) (R : List S66) (hs : List S60) (p m a : Nat) (h : a < m) : chFrom T R hs p m a = chRow T R hs p m a 0 ++ chFrom T R hs p m (a + 1) := by
 unfold chFrom chRow
 rw [irange_cons (lo := (a : Int)) (hi := (m : Int) - 1) (by omega), List.flatMap_cons, List.filter_append, List.map_append]
 rfl
theorem chFrom_end (T : Int) (R : List S66) (hs : List S60) (p m : Nat) : chFrom T R hs p m m = [] := by
 unfold chFrom
 rw [irange_nil (lo := (m : Int)) (hi := (m : Int) - 1) (by omega)]
 rfl
theorem chRow_end (T : Int) (R : List S66) (hs : List S60) (p m a : Nat) : chRow T R hs p m a m = [] := by
 unfold chRow
 rw [irange_nil (by omega)]
 rfl
theorem chRow_cons (T : Int) (R : List S66) (hs : List S60) (p m a b : Nat) (h : b < m) : chRow T R hs p m a b = (if miss T R hs (p : Int) (a : Int) (b : Int) = 0 then [(⟨(a : Int), (b : Int)⟩ : S61)] else []) ++ chRow T R hs p m a (b + 1) := by
 unfold chRow
 rw [irange_cons (by omega), List.map_cons, List.filter_cons]
 by_cases h0 : miss T R hs (p : Int) (a : Int) (b : Int) = 0
 ·rw [if_pos (by unfold fitAt; exact decide_eq_true h0), if_pos h0]; rfl
 ·rw [if_neg (by unfold fitAt; rw [decide_eq_false h0]; simp), if_neg h0]; rfl
theorem tones_f (T O L : Int) (R : List S66) (m : Nat) (hm : T * O = (m : Int)) (hm' : m ≤ 21) : saronref06_tones.f T O L R = some (m : Int) := by
 unfold saronref06_tones.f
 rw [hm, w64 (by omega) (by omega)]
section
variable (T O L : Int) (p m : Nat) (R : List S66) (hs : List S60) (hS : okScale T O L R = true) (hH : okHeard L R hs = true) (hp : (p : Int) < L / 2) (hm : T * O = (m : Int)) (hm' : m ≤ 21)
include hS hH hp hm hm'
theorem ch_l1 (a : Nat) (ha : a < m) (K0 : Nat) (h300 : 300 ≤ K0) (Fc : List S61 → List S61) (hc : ∀ (k : Nat) (acc : List S61), K0 ≤ k → acc.length ≤ 100 * (a + 1) → saronref06_choices.l0 k hs (p : Int) acc ((a + 1 : Nat) : Int) T O L R = some (Fc acc)) (d : Nat) :
  ∀ (k b : Nat) (acc : List S61), m - b = d → b ≤ m → acc.length ≤ 100 * a + b → K0 + d + 1 ≤ k → saronref06_choices.l1 k hs (p : Int) acc (a : Int) (b : Int) T O L R = some (Fc (acc ++ chRow T R hs p m a b)) := by
 induction d with
 | zero =>
  intro k b acc hd hb hl hk
  obtain ⟨k, rfl⟩ : ∃ z, k = z + 1 := ⟨k - 1, by omega⟩
  obtain rfl : b = m := by omega
  simp only [saronref06_choices.l1]
  rw [tones_f T O L R b hm hm', Option.bind_some, if_neg (by omega), up1 a (by omega), hc k acc (by omega) (by omega), chRow_end, List.append_nil]
 | succ d ih =>
  intro k b acc hd hb hl hk
  obtain ⟨k, rfl⟩ : ∃ z, k = z + 1 := ⟨k - 1, by omega⟩
  simp only [saronref06_choices.l1]
  rw [tones_f T O L R m hm hm', Option.bind_some, if_pos (by omega), otherwise_f T O L a b p R hs hS hH hp (by omega) (by omega) (by omega) (by omega) k (by omega), Option.bind_some, up1 b (by omega), chRow_cons T R hs p m a b (by omega)]
  by_cases h0 : miss T R hs (p : Int) (a : Int) (b : Int) = 0
  ·rw [if_pos (by omega), if_pos (by omega), ih k (b + 1) _ (by omega) (by omega) (by simp; omega) (by omega), if_pos h0, List.append_assoc]
  ·rw [if_neg (by omega), ih k (b + 1) _ (by omega) (by omega) (by omega) (by omega), if_neg h0, List.nil_append]
theorem ch_l0 (d : Nat) : ∀ (k a : Nat) (acc : List S61), m - a = d → a ≤ m → acc.length ≤ 100 * a → 300 + 30 * d + 1 ≤ k → saronref06_choices.l0 k hs (p : Int) acc (a : Int) T O L R = some (acc ++ chFrom T R hs p m a) := by
 induction d with
 | zero =>
  intro k a acc hd ha hl hk
  obtain ⟨k, rfl⟩ : ∃ z, k = z + 1 := ⟨k - 1, by omega⟩
  obtain rfl : a = m := by omega
  simp only [saronref06_choices.l0]
  rw [tones_f T O L R a hm hm', Option.bind_some, if_neg (by omega), chFrom_end, List.append_nil]
 | succ d ih =>
  intro k a acc hd ha hl hk
  obtain ⟨k, rfl⟩ : ∃ z, k = z + 1 := ⟨k - 1, by omega⟩
  have h1 := ch_l1 T O L p m R hs hS hH hp hm hm' a (by omega) (300 + 30 * d + 1) (by omega) (fun acc => acc ++ chFrom T R hs p m (a + 1)) (fun k acc hk hl => ih k (a + 1) acc (by omega) (by omega) hl hk) m k 0 acc (Nat.sub_zero _) (Nat.zero_le _) (by omega) (by omega)
  simp only [saronref06_choices.l0]
  rw [tones_f T O L R m hm hm', Option.bind_some, if_pos (by omega), chFrom_cons T R hs p m a (by omega), ← List.append_assoc]
  exact h1
theorem choices_f (k : Nat) (hk : 1000 ≤ k) : saronref06_choices.f k T O L R hs (p : Int) = some ((choices T O R hs (p : Int)).map mk61) := by
 have h := ch_l0 T O L p m R hs hS hH hp hm hm' m k 0 [] (Nat.sub_zero _) (Nat.zero_le _) (Nat.le_refl _) (by omega)
 rw [List.nil_append, chFrom_zero T O R hs p m hm] at h
 exact h
end
def allFrom (T O L : Int) (R : List S66) (hs : List S60) (p : Nat) : List (List S61) := (irange (p : Int) (L / 2 - 1)).map fun x => (choices T O R hs x).map mk61
def canOn (T O L : Int) (R : List S66) (hs : List S60) (p : Nat) : Bool := (irange (p : Int) (L / 2 - 1)).all fun x => !(choices T O R hs x).isEmpty
section
variable (T O L : Int) (m : Nat) (R : List S66) (hs : List S60) (hS : okScale T O L R = true) (hH : okHeard L R hs = true) (hm : T * O = (m : Int)) (hm' : m ≤ 21)
include hS hH hm hm'
theorem all_l0 (d : Nat) : ∀ (k p : Nat) (acc : List (List S61)) (ok : Bool), (L / 2).toNat - p = d → (p : Int) ≤ L / 2 → acc.length ≤ p → 1000 + d + 1 ≤ k → saronref06_all.l0 k hs acc ok (p : Int) T O L R = some (acc ++ allFrom T O L R hs p, ok && canOn T O L R hs p) := by
 obtain ⟨t1, t2, t3, t4, t5, t6, t7, t8, t9, hok⟩ := okScale_regs hS
 have hdv : wrap64 (Int.tdiv L 2) = L / 2 := by rw [Int.tdiv_eq_ediv_of_nonneg (by omega)]; exact w64 (by omega) (by omega)
 induction d with
 | zero =>
  intro k p acc ok hd hp hl hk
  obtain ⟨k, rfl⟩ : ∃ z, k = z + 1 := ⟨k - 1, by omega⟩
  simp only [saronref06_all.l0]
  rw [hdv]
  clear hdv
  unfold allFrom canOn
  rw [if_neg (by omega), irange_nil (by omega)]
  simp
 | succ d ih =>
  intro k p acc ok hd hp hl hk
  obtain ⟨k, rfl⟩ : ∃ z, k = z + 1 := ⟨k - 1, by omega⟩
  simp only [saronref06_all.l0]
  rw [hdv]
  clear hdv
  have ih' := fun ok acc hl => ih k (p + 1) acc ok (by omega) (by omega) hl (by omega)
  have e1 : allFrom T O L R hs p = (choices T O R hs (p : Int)).map mk61 :: allFrom T O L R hs (p + 1) := by
   unfold allFrom
   rw [irange_cons (by omega)]
   rfl
  have e2 : canOn T O L R hs p = (!(choices T O R hs (p : Int)).isEmpty && canOn T O L R hs (p + 1)) := by
   unfold canOn
   rw [irange_cons (by omega)]
   rfl
  rw [if_pos (by omega), choices_f T O L p m R hs hS hH (by omega) hm hm' k (by omega), Option.bind_some, up1 p (by omega), e1, e2]
  have e3 : decide ((((choices T O R hs (p : Int)).map mk61).length : Int) > 0) = !(choices T O R hs (p : Int)).isEmpty := by
   cases choices T O R hs (p : Int)
   ·rfl
   ·simp
  cases ok
  ·rw [if_neg (by simp), if_pos (by omega), ih' _ _ (by simp; omega), List.append_assoc]; rfl
  ·rw [if_pos rfl, if_pos (by omega), ih' _ _ (by simp; omega), e3, List.append_assoc]; rfl
theorem all_f (k : Nat) (hk : 1100 ≤ k) : saronref06_all.f k T O L R hs = some (allFrom T O L R hs 0, canAll T O L R hs) := by
 obtain ⟨t1, t2, t3, t4, t5, t6, t7, t8, t9, hok⟩ := okScale_regs hS
 have h := all_l0 T O L m R hs hS hH hm hm' (L / 2).toNat k 0 [] true (Nat.sub_zero _) (by omega) (Nat.le_refl _) (by omega)
 exact h
end
theorem many_l0 (l : List (List S61)) (hl : ∀ x ∈ l, x.length ≤ 10000) (hl' : l.length ≤ 1000) (d : Nat) : ∀ (k i : Nat) (n : Int), l.length - i = d → i ≤ l.length → 0 ≤ n → n ≤ 1000000 → d + 1 ≤ k →
  saronref06_Many.l0 k l n (i : Int) = some ((l.drop i).foldl (fun n x => min 1000000 (n * (x.length : Int))) n, 0) := by
 induction d with
 | zero =>
  intro k i n hd hi h0 h1 hk
  obtain ⟨k, rfl⟩ : ∃ z, k = z + 1 := ⟨k - 1, by omega⟩
  obtain rfl : i = l.length := by omega
  simp only [saronref06_Many.l0]
  rw [if_neg (by omega), List.drop_length]
  rfl
 | succ d ih =>
  intro k i n hd hi h0 h1 hk
  obtain ⟨k, rfl⟩ : ∃ z, k = z + 1 := ⟨k - 1, by omega⟩
  have hlt : i < l.length := by omega
  have hx := hl l[i] (List.getElem_mem hlt)
  have hm0 : 0 ≤ n * (l[i].length : Int) := Int.mul_nonneg h0 (by omega)
  have hm1 : n * (l[i].length : Int) ≤ 1000000 * 10000 := Int.mul_le_mul h1 (by omega) (by omega) (by omega)
  have e : mn 1000000 (n * (l[i].length : Int)) = min 1000000 (n * (l[i].length : Int)) := by unfold mn; omega
  simp only [saronref06_Many.l0]
  rw [if_pos (by omega), if_pos (by omega), rdL9 l i hlt, w64 (n := n * (l[i].length : Int)) (by omega) (by omega), e, up1 i (by omega), List.drop_eq_getElem_cons hlt, List.foldl_cons]
  clear e
  exact ih k (i + 1) _ (by omega) (by omega) (by omega) (by omega) (by omega)
theorem irange_mem {x lo hi : Int} (h : x ∈ irange lo hi) : lo ≤ x ∧ x ≤ hi := by
 unfold irange at h
 rw [List.mem_map] at h
 obtain ⟨i, hi, rfl⟩ := h
 rw [List.mem_range] at hi
 omega
theorem irange_length (lo hi : Int) : (irange lo hi).length = (hi + 1 - lo).toNat := by unfold irange; simp
theorem rMany_f (T O L : Int) (R : List S66) (hs : List S60) (hR : R.length ≤ 9223372036854775807) (hl : Lens hs) (k : Nat) (hk : askFuel hs + 2 * R.length + 1200 ≤ k) : saronref06_Many.f k T O L R hs = some (Many T O L R hs) := by
 unfold saronref06_Many.f Many
 rw [asked_f T O L R hs hR hl k (by omega), Option.bind_some]
 cases hS : okScale T O L R
 ·rfl
 cases hH : okHeard L R hs
 ·rfl
 obtain ⟨t1, t2, t3, t4, t5, t6, t7, t8, t9, hok⟩ := okScale_regs hS
 have mr := mul_range t1 t2 t3 t4
 obtain ⟨m, hm⟩ : ∃ m : Nat, T * O = (m : Int) := Int.eq_ofNat_of_zero_le (by omega)
 rw [if_pos rfl, if_pos rfl, if_pos rfl, all_f T O L m R hs hS hH hm (by omega) k (by omega), Option.bind_some]
 cases hC : canAll T O L R hs
 ·rfl
 rw [if_pos rfl, if_pos rfl, if_pos rfl, if_pos rfl]
 have hlen : (allFrom T O L R hs 0).length ≤ 10 := by unfold allFrom; rw [List.length_map, irange_length]; omega
 have h := many_l0 (allFrom T O L R hs 0) (fun x hx => by
  unfold allFrom at hx
  rw [List.mem_map] at hx
  obtain ⟨y, hy, rfl⟩ := hx
  have := irange_mem hy
  obtain ⟨p, rfl⟩ : ∃ p : Nat, y = (p : Int) := Int.eq_ofNat_of_zero_le (by omega)
  rw [List.length_map]
  exact choices_len T O R hs p m hm (by omega)) (by omega) (allFrom T O L R hs 0).length k 0 1 (Nat.sub_zero _) (Nat.zero_le _) (by omega) (by omega) (by omega)
 refine h.trans ?_
 rw [List.drop_zero]
 unfold allFrom manyOf
 rw [List.foldl_map]
 simp only [List.length_map]
 rfl
end Go.Proofs.YtagkfkdoibnhfaaDoor.K
end
section
namespace Go.Proofs.YtagkfkdoibnhfaaDoor.H
open Go.RowKit Go.Proofs.YtagkfkdoibnhfaaDoorW.PrintWords Go.Proofs.YtagkfkdoibnhfaaDoorW.PrintLast Go.Proofs.YtagkfkdoibnhfaaDoorW.PrintMore
attribute [local go_sem] max2_int min2_int max_two min_two max_three min_three max_four min_four   -- for this text's walks alone
set_option linter.unusedVariables false
set_option linter.unusedSimpArgs false
open Go.Proofs.YtagkfkdoibnhfaaDoor.K
def saronlaw06_KernelMany.j0 : Nat → List (S60) → Int → Bool → Int → Int → Int → List (S66) → Option (Bool)
 | 0, _, _, _, _, _, _, _ => none
 | k + 1, x1, x2, x32, x297000, x297001, x297002, x297003 => if x32 = true then (some false) else ((kernel_Can.f x297000 x297001 x297002 x297003 x1 x2).bind fun bt301 => ((saronref06_Can.f k x297000 x297001 x297002 x297003 x1 x2).bind fun bt305 => ((saronref00_Equal.f k bt301.1 bt305.1).bind fun t309 => (if t309 = true then (if bt301.2 = bt305.2 then ((saronlaw06_works.f).bind fun t310 => (some t310)) else (some false)) else (some false)))))
def saronlaw06_KernelMany.f (k : Nat) (a0_0 : Int) (a0_1 : Int) (a0_2 : Int) (l0_3 : List (S66)) (l1 : List (S60)) (a2 : Int) : Option (Bool) := (kernel_Many.f a0_0 a0_1 a0_2 l0_3 l1).bind fun bt297 => ((saronref06_Many.f k a0_0 a0_1 a0_2 l0_3 l1).bind fun bt299 => (if bt297.1 = bt299.1 then (saronlaw06_KernelMany.j0 k l1 a2 (bt297.2 != bt299.2) a0_0 a0_1 a0_2 l0_3) else (saronlaw06_KernelMany.j0 k l1 a2 true a0_0 a0_1 a0_2 l0_3)))
set_option maxHeartbeats 8000000 in
set_option maxRecDepth 100000 in
theorem saronlaw06_KernelMany.calls (k : Nat) (a0_0 : Int) (a0_1 : Int) (a0_2 : Int) (A0_3 : Option Addr) (c0_3 : Nat) (l0_3 : List (S66)) (A1 : Option Addr) (c1 : Nat) (l1 : List (S60)) (a2 : Int) (r : Bool) (w : World) (hr0_3 : Kd.C k66 w A0_3 l0_3.length l0_3) (hc0_3 : l0_3.length ≤ c0_3) (hr1 : Kd.C k60 w A1 l1.length l1) (hc1 : l1.length ≤ c1) (hG : Glob w) (h : saronlaw06_KernelMany.f k a0_0 a0_1 a0_2 l0_3 l1 a2 = some r) :
  Calls Tryd.prog 4 #[.agg #[.int .i64 a0_0, .int .i64 a0_1, .int .i64 a0_2, .slice A0_3 l0_3.length c0_3], .slice A1 l1.length c1, .int .i64 a2] w fun e w' => e = .returned (.bool r) ∧ Below w.heap.size w w' := by
 have hu24 := Tryd.underlying24
 have HG := zh hG
 clear hG
 have HR0_3 := zh hr0_3
 have HC0_3 := zh hc0_3
 clear hr0_3 hc0_3
 have HR1 := zh hr1
 have HC1 := zh hc1
 clear hr1 hc1
 have HB := zh (Below.refl w.heap.size w)
 have H : ((kernel_Many.f a0_0 a0_1 a0_2 l0_3 l1).bind fun bt297 => ((saronref06_Many.f k a0_0 a0_1 a0_2 l0_3 l1).bind fun bt299 => (if bt297.1 = bt299.1 then (saronlaw06_KernelMany.j0 k l1 a2 (bt297.2 != bt299.2) a0_0 a0_1 a0_2 l0_3) else (saronlaw06_KernelMany.j0 k l1 a2 true a0_0 a0_1 a0_2 l0_3)))) = some r := h
 clear h
 replace H := Option.bind_eq_some_iff.mp H
 obtain ⟨⟨t297, t298⟩, A40, H⟩ := H
 replace H : ((saronref06_Many.f k a0_0 a0_1 a0_2 l0_3 l1).bind fun bt299 => (if t297 = bt299.1 then (saronlaw06_KernelMany.j0 k l1 a2 (t298 != bt299.2) a0_0 a0_1 a0_2 l0_3) else (saronlaw06_KernelMany.j0 k l1 a2 true a0_0 a0_1 a0_2 l0_3))) = some r := H
 have A4 := zh A40
 clear A40
 replace H := Option.bind_eq_some_iff.mp H
 obtain ⟨⟨t299, t300⟩, A50, H⟩ := H
 replace H : (if t297 = t299 then (saronlaw06_KernelMany.j0 k l1 a2 (t298 != t300) a0_0 a0_1 a0_2 l0_3) else (saronlaw06_KernelMany.j0 k l1 a2 true a0_0 a0_1 a0_2 l0_3)) = some r := H
 have A5 := zh A50
 clear A50
 have HC6 := zh H
 clear H
 go_enter Tryd.func4, Tryd.ntmps4
 go_upto_region 3 with (first | ((with_reducible refine gate_dst (N := 3) rfl ?_); refine box_event ?hg (N := 3) ?hd (cs := #[.int .i64 a0_0, .int .i64 a0_1, .int .i64 a0_2, .slice A0_3 l0_3.length c0_3]) (t := 24) ?hr ?_; (case hd => rfl); (case hg => rfl); (case hr => first | (go_simp; done) | (go_simp; rfl)); intro gb296 hg w7 hbox hb; have n0_ := zh (below_step zb hb); have n1_ := zh (hbox); have n2_ := zh ((by rw [hg]; exact (below_size zb) : w.heap.size ≤ gb296)); have n3_ := zh ((by rw [hg]; exact (below_size zb) : w.heap.size ≤ gb296)); clear HB; have HB := n0_; have BK296 := n1_; have GW296 := n2_; have GE296 := n3_; clear n0_ n1_ n2_ n3_; clear hb hbox hg; have hcz8_0 : w7.cell? ⟨gb296, 0, none⟩ = some (.int .i64 a0_0) := vb BK296 0; have hcz8_1 : w7.cell? ⟨gb296, 1, none⟩ = some (.int .i64 a0_1) := vb BK296 1; have hcz8_2 : w7.cell? ⟨gb296, 2, none⟩ = some (.int .i64 a0_2) := vb BK296 2; have hcz8_3 : w7.cell? ⟨gb296, 3, none⟩ = some (.slice A0_3 l0_3.length c0_3) := vb BK296 3; have hfz8_0 := blk_frozen BK296.out 0; have hfz8_1 := blk_frozen BK296.out 1; have hfz8_2 := blk_frozen BK296.out 2; have hfz8_3 := blk_frozen BK296.out 3) | ((with_reducible refine gate_callee (f := 22) rfl ?_); refine goesL_ (some 16) rfl rfl Tryd.func22 zk rfl #[.agg #[.int .i64 a0_0, .int .i64 a0_1, .int .i64 a0_2, .slice A0_3 l0_3.length c0_3], .slice A1 l1.length c1] rfl zm ?_; (with_reducible refine (kernel_Many.calls a0_0 a0_1 a0_2 _ _ l0_3 _ _ l1 t297 t298 _ ?side1 ?side2 ?side3 ?side4 ?side5 A4.out).mono ?_); (case side1 => repeat (first | exact (Kd.C_below HR0_3.out HB.out) | (with_reducible refine Kd.C_alloc ?_ _) | (with_reducible refine Kd.C_drewN ?_ _) | (with_reducible refine Kd.C_drew ?_))); (case side2 => exact HC0_3.out); (case side3 => repeat (first | exact (Kd.C_below HR1.out HB.out) | (with_reducible refine Kd.C_alloc ?_ _) | (with_reducible refine Kd.C_drewN ?_ _) | (with_reducible refine Kd.C_drew ?_))); (case side4 => exact HC1.out); (case side5 => exact Glob.below HG.out zb); rintro e w9 ⟨rfl, hb⟩; refine ⟨_, rfl, ?_⟩; have n0_ := zh (blk_below (g := gb296) (o := .cells #[.int .i64 a0_0, .int .i64 a0_1, .int .i64 a0_2, .slice A0_3 l0_3.length c0_3] 24 (0, 0)) (zc BK296) hb); have n1_ := zh (below_step zb hb); clear BK296; clear HB; have BK296 := n0_; have HB := n1_; clear n0_ n1_; (try clear hb); (try clear hb2); (try clear hk); (try clear hi); have hcz10_0 : w9.cell? ⟨gb296, 0, none⟩ = some (.int .i64 a0_0) := vb BK296 0; have hcz10_1 : w9.cell? ⟨gb296, 1, none⟩ = some (.int .i64 a0_1) := vb BK296 1; have hcz10_2 : w9.cell? ⟨gb296, 2, none⟩ = some (.int .i64 a0_2) := vb BK296 2; have hcz10_3 : w9.cell? ⟨gb296, 3, none⟩ = some (.slice A0_3 l0_3.length c0_3) := vb BK296 3; have hfz10_0 := blk_frozen BK296.out 0; have hfz10_1 := blk_frozen BK296.out 1; have hfz10_2 := blk_frozen BK296.out 2; have hfz10_3 := blk_frozen BK296.out 3) | ((with_reducible refine gate_callee (f := 23) rfl ?_); refine goesL_ (some 22) rfl rfl Tryd.func23 zk rfl #[.agg #[.int .i64 a0_0, .int .i64 a0_1, .int .i64 a0_2, .slice A0_3 l0_3.length c0_3], .slice A1 l1.length c1] rfl zm ?_; (with_reducible refine (saronref06_Many.calls k a0_0 a0_1 a0_2 _ _ l0_3 _ _ l1 t299 t300 _ ?side1 ?side2 ?side3 ?side4 A5.out).mono ?_); (case side1 => repeat (first | exact (Kd.C_below HR0_3.out HB.out) | (with_reducible refine Kd.C_alloc ?_ _) | (with_reducible refine Kd.C_drewN ?_ _) | (with_reducible refine Kd.C_drew ?_))); (case side2 => exact HC0_3.out); (case side3 => repeat (first | exact (Kd.C_below HR1.out HB.out) | (with_reducible refine Kd.C_alloc ?_ _) | (with_reducible refine Kd.C_drewN ?_ _) | (with_reducible refine Kd.C_drew ?_))); (case side4 => exact HC1.out); rintro e w11 ⟨rfl, hb⟩; refine ⟨_, rfl, ?_⟩; have n0_ := zh (blk_below (g := gb296) (o := .cells #[.int .i64 a0_0, .int .i64 a0_1, .int .i64 a0_2, .slice A0_3 l0_3.length c0_3] 24 (0, 0)) (zc BK296) hb); have n1_ := zh (below_step zb hb); clear BK296; clear HB; have BK296 := n0_; have HB := n1_; clear n0_ n1_; (try clear hb); (try clear hb2); (try clear hk); (try clear hi)))
 (try simp only [Act.put, List.setIfInBounds_toArray, List.set_cons_zero, List.set_cons_succ])
 go_cut [32] (fun v32 wc => ∃ (kq : Nat) (x32_5 : Bool), v32 = .bool x32_5 ∧ Aside0 (saronlaw06_KernelMany.j0 kq l1 a2 x32_5 a0_0 a0_1 a0_2 l0_3 = some r) ∧ Aside0 (kq ≤ k) ∧ Aside0 (wc.heap[gb296]? = some (.cells #[.int .i64 a0_0, .int .i64 a0_1, .int .i64 a0_2, (.slice A0_3 l0_3.length c0_3)] 24 (0, 0))) ∧ Aside0 (Below w.heap.size w wc))
 case first =>
  have H := HC6.out
  clear HC6
  by_cases c12 : t297 = t299
  ·rw [if_pos c12] at H
   have c12b0 : (t297 == t299) = true := beq_iff_eq.mpr c12
   have c12b1 : (t297 != t299) = false := bne_eq_false_iff_eq.mpr c12
   clear c12
   (first | rw [c12b0] | (simp only [i64_w, i32_w]; rw [c12b0]) | skip)
   have H' := zh H
   clear H
   go_wp2
   go_meet
   case rel => exact ⟨_, ((t298 != t300)), ze, H', ⟨zo1⟩, ⟨zc BK296⟩, ⟨zb⟩⟩
  ·rw [if_neg c12] at H
   have c12b0 : (t297 == t299) = false := beq_eq_false_iff_ne.mpr c12
   have c12b1 : (t297 != t299) = true := bne_iff_ne.mpr c12
   (first | rw [c12b0] | (simp only [i64_w, i32_w]; rw [c12b0]) | skip)
   have H' := zh H
   clear H
   go_wp2
   go_meet
   case rel => exact ⟨_, (true), ze, H', ⟨zo1⟩, ⟨zc BK296⟩, ⟨zb⟩⟩
 case rest =>
  clear HC6
  try clear c1
  try clear c2
  try clear p2
  try clear c4
  try clear c12
  try clear c12b0
  try clear c12b1
  try clear hcz10_0
  try clear hcz10_1
  try clear hcz10_2
  try clear hcz10_3
  try clear hcz8_0
  try clear hcz8_1
  try clear hcz8_2
  try clear hcz8_3
  try clear hfz10_0
  try clear hfz10_1
  try clear hfz10_2
  try clear hfz10_3
  try clear hfz8_0
  try clear hfz8_1
  try clear hfz8_2
  try clear hfz8_3
  obtain ⟨kq, x32_5, rfl, HA, HJ5, BK296, HB⟩ := hcut
  cases kq with
  | zero => exact absurd HA.out (by simp [saronlaw06_KernelMany.j0])
  | succ kj5 =>
   have H := HA.out
   clear HA
   simp only [saronlaw06_KernelMany.j0] at H
   by_cases c13 : x32_5 = true
   ·subst c13
    have H1 : (some false) = some r := by rw [if_pos rfl] at H; exact H
    clear H
    have H := H1
    clear H1
    obtain rfl := Option.some.inj H
    go_wp2
    go_ret
    exact ⟨zf, zb⟩
   ·replace c13 := Bool.eq_false_iff.mpr c13
    subst c13
    have H1 : ((kernel_Can.f a0_0 a0_1 a0_2 l0_3 l1 a2).bind fun bt301 => ((saronref06_Can.f kj5 a0_0 a0_1 a0_2 l0_3 l1 a2).bind fun bt305 => ((saronref00_Equal.f kj5 bt301.1 bt305.1).bind fun t309 => (if t309 = true then (if bt301.2 = bt305.2 then ((saronlaw06_works.f).bind fun t310 => (some t310)) else (some false)) else (some false))))) = some r := by rw [if_neg (show ¬ (false = true) by decide)] at H; exact H
    clear H
    have H := H1
    clear H1
    replace H := Option.bind_eq_some_iff.mp H
    obtain ⟨⟨t301, t304⟩, A140, H⟩ := H
    replace H : ((saronref06_Can.f kj5 a0_0 a0_1 a0_2 l0_3 l1 a2).bind fun bt305 => ((saronref00_Equal.f kj5 t301 bt305.1).bind fun t309 => (if t309 = true then (if t304 = bt305.2 then ((saronlaw06_works.f).bind fun t310 => (some t310)) else (some false)) else (some false)))) = some r := H
    have A14 := zh A140
    clear A140
    replace H := Option.bind_eq_some_iff.mp H
    obtain ⟨⟨t305, t308⟩, A150, H⟩ := H
    replace H : ((saronref00_Equal.f kj5 t301 t305).bind fun t309 => (if t309 = true then (if t304 = t308 then ((saronlaw06_works.f).bind fun t310 => (some t310)) else (some false)) else (some false))) = some r := H
    have A15 := zh A150
    clear A150
    replace H := Option.bind_eq_some_iff.mp H
    obtain ⟨t309, A160, H⟩ := H
    replace H : (if t309 = true then (if t304 = t308 then ((saronlaw06_works.f).bind fun t310 => (some t310)) else (some false)) else (some false)) = some r := H
    have A16 := zh A160
    clear A160
    by_cases c17 : t309 = true
    ·subst c17
     have H1 : (if t304 = t308 then ((saronlaw06_works.f).bind fun t310 => (some t310)) else (some false)) = some r := by rw [if_pos rfl] at H; exact H
     clear H
     have H := H1
     clear H1
     by_cases c18 : t304 = t308
     ·rw [if_pos c18] at H
      have c18b0 : (t304 == t308) = true := beq_iff_eq.mpr c18
      have c18b1 : (t304 != t308) = false := bne_eq_false_iff_eq.mpr c18
      clear c18
      replace H := Option.bind_eq_some_iff.mp H
      obtain ⟨t310, A190, H⟩ := H
      replace H : (some t310) = some r := H
      have A19 := zh A190
      clear A190
      obtain rfl := Option.some.inj H
      have hcz20_0 : wc.cell? ⟨gb296, 0, none⟩ = some (.int .i64 a0_0) := vb BK296 0
      have hcz20_1 : wc.cell? ⟨gb296, 1, none⟩ = some (.int .i64 a0_1) := vb BK296 1
      have hcz20_2 : wc.cell? ⟨gb296, 2, none⟩ = some (.int .i64 a0_2) := vb BK296 2
      have hcz20_3 : wc.cell? ⟨gb296, 3, none⟩ = some (.slice A0_3 l0_3.length c0_3) := vb BK296 3
      have hfz20_0 := blk_frozen BK296.out 0
      have hfz20_1 := blk_frozen BK296.out 1
      have hfz20_2 := blk_frozen BK296.out 2
      have hfz20_3 := blk_frozen BK296.out 3
      go_wp2_with (first | ((with_reducible refine gate_callee (f := 24) rfl ?_); refine goesL_ (some 37) rfl rfl Tryd.func24 zk rfl #[.agg #[.int .i64 a0_0, .int .i64 a0_1, .int .i64 a0_2, .slice A0_3 l0_3.length c0_3], .slice A1 l1.length c1, .int .i64 a2] rfl zm ?_; (with_reducible refine (kernel_Can.calls a0_0 a0_1 a0_2 _ _ l0_3 _ _ l1 a2 t301 t304 _ ?side1 ?side2 ?side3 ?side4 ?side5 A14.out).mono ?_); (case side1 => repeat (first | exact (Kd.C_below HR0_3.out HB.out) | (with_reducible refine Kd.C_alloc ?_ _) | (with_reducible refine Kd.C_drewN ?_ _) | (with_reducible refine Kd.C_drew ?_))); (case side2 => exact HC0_3.out); (case side3 => repeat (first | exact (Kd.C_below HR1.out HB.out) | (with_reducible refine Kd.C_alloc ?_ _) | (with_reducible refine Kd.C_drewN ?_ _) | (with_reducible refine Kd.C_drew ?_))); (case side4 => exact HC1.out); (case side5 => exact Glob.below HG.out zb); rintro e w21 ⟨v302, rfl, ho0, hb⟩; refine ⟨_, rfl, ?_⟩; have n0_ := zh (Kd.V_lower (Kd.V_mono (ok' := fun k_ => k_ ≠ gb296) ho0 (fun k_ hk_ => (Kd.freshB (g := gb296) (o := .cells #[.int .i64 a0_0, .int .i64 a0_1, .int .i64 a0_2, .slice A0_3 l0_3.length c0_3] 24 (0, 0)) (zc BK296) k_ hk_))) (below_size zb)); have n1_ := zh (blk_below (g := gb296) (o := .cells #[.int .i64 a0_0, .int .i64 a0_1, .int .i64 a0_2, .slice A0_3 l0_3.length c0_3] 24 (0, 0)) (zc BK296) hb); have n2_ := zh (below_step zb hb); clear BK296; clear HB; have HO303 := n0_; have BK296 := n1_; have HB := n2_; clear n0_ n1_ n2_; (try clear hb); (try clear hb2); (try clear hk); (try clear hi); (try clear ho0); have hcz22_0 : w21.cell? ⟨gb296, 0, none⟩ = some (.int .i64 a0_0) := vb BK296 0; have hcz22_1 : w21.cell? ⟨gb296, 1, none⟩ = some (.int .i64 a0_1) := vb BK296 1; have hcz22_2 : w21.cell? ⟨gb296, 2, none⟩ = some (.int .i64 a0_2) := vb BK296 2; have hcz22_3 : w21.cell? ⟨gb296, 3, none⟩ = some (.slice A0_3 l0_3.length c0_3) := vb BK296 3; have hfz22_0 := blk_frozen BK296.out 0; have hfz22_1 := blk_frozen BK296.out 1; have hfz22_2 := blk_frozen BK296.out 2; have hfz22_3 := blk_frozen BK296.out 3) | ((with_reducible refine gate_callee (f := 25) rfl ?_); refine goesL_ (some 44) rfl rfl Tryd.func25 zk rfl #[.agg #[.int .i64 a0_0, .int .i64 a0_1, .int .i64 a0_2, .slice A0_3 l0_3.length c0_3], .slice A1 l1.length c1, .int .i64 a2] rfl zm ?_; (with_reducible refine (saronref06_Can.calls kj5 a0_0 a0_1 a0_2 _ _ l0_3 _ _ l1 a2 t305 t308 _ ?side1 ?side2 ?side3 ?side4 A15.out).mono ?_); (case side1 => repeat (first | exact (Kd.C_below HR0_3.out HB.out) | (with_reducible refine Kd.C_alloc ?_ _) | (with_reducible refine Kd.C_drewN ?_ _) | (with_reducible refine Kd.C_drew ?_))); (case side2 => exact HC0_3.out); (case side3 => repeat (first | exact (Kd.C_below HR1.out HB.out) | (with_reducible refine Kd.C_alloc ?_ _) | (with_reducible refine Kd.C_drewN ?_ _) | (with_reducible refine Kd.C_drew ?_))); (case side4 => exact HC1.out); rintro e w23 ⟨v306, rfl, ho0, hb⟩; refine ⟨_, rfl, ?_⟩; have n0_ := zh (Kd.V_elder' (zV HO303) (Kd.R_base ho0) hb); have n1_ := zh (Kd.R_lower ho0 (below_size zb)); have n2_ := zh (blk_below (g := gb296) (o := .cells #[.int .i64 a0_0, .int .i64 a0_1, .int .i64 a0_2, .slice A0_3 l0_3.length c0_3] 24 (0, 0)) (zc BK296) hb); have n3_ := zh (below_step zb hb); clear HO303; clear BK296; clear HB; have HO303 := n0_; have HO307 := n1_; have BK296 := n2_; have HB := n3_; clear n0_ n1_ n2_ n3_; (try clear hb); (try clear hb2); (try clear hk); (try clear hi); (try clear ho0); obtain ⟨Ao24, co24, eo24⟩ := Kd.V_slice HO303.out; subst eo24; obtain ⟨Ao25, co25, eo25⟩ := Kd.R_slice HO307.out; subst eo25) | ((with_reducible refine gate_callee (f := 18) rfl ?_); refine goesL_ (some 49) rfl rfl Tryd.func18 zk rfl #[.slice Ao24 t301.length co24, .slice Ao25 t305.length co25] rfl zm ?_; (with_reducible refine (saronref00_Equal.calls kj5 _ _ t301 _ _ t305 true _ ?side1 ?side2 ?side3 ?side4 A16.out).mono ?_); (case side1 => repeat (first | exact (Kd.V_reads' HO303.out).2.2 | (with_reducible refine Kd.C_alloc ?_ _) | (with_reducible refine Kd.C_drewN ?_ _) | (with_reducible refine Kd.C_drew ?_))); (case side2 => exact (Kd.V_reads' HO303.out).2.1); (case side3 => repeat (first | exact (Kd.R_reads' HO307.out).2.2 | (with_reducible refine Kd.C_alloc ?_ _) | (with_reducible refine Kd.C_drewN ?_ _) | (with_reducible refine Kd.C_drew ?_))); (case side4 => exact (Kd.R_reads' HO307.out).2.1); rintro e w' ⟨rfl, ⟨nd, rfl⟩⟩; refine ⟨_, rfl, ?_⟩) | (go_at_call 21; (with_reducible refine (saronlaw06_works.calls  t310 _ ?side1 A19.out).mono ?_); (case side1 => exact Glob.below HG.out zb); rintro e w26 ⟨rfl, hb⟩; have n0_ := zh (Kd.V_below (zV HO303) hb); have n1_ := zh (Kd.R_below (zR HO307) hb); have n2_ := zh (blk_below (g := gb296) (o := .cells #[.int .i64 a0_0, .int .i64 a0_1, .int .i64 a0_2, .slice A0_3 l0_3.length c0_3] 24 (0, 0)) (zc BK296) hb); have n3_ := zh (below_step zb hb); clear HO303; clear HO307; clear BK296; clear HB; have HO303 := n0_; have HO307 := n1_; have BK296 := n2_; have HB := n3_; clear n0_ n1_ n2_ n3_; (try clear hb); (try clear hb2); (try clear hk); (try clear hi)))
      go_ret
      exact ⟨zf, zb⟩
     ·rw [if_neg c18] at H
      have c18b0 : (t304 == t308) = false := beq_eq_false_iff_ne.mpr c18
      have c18b1 : (t304 != t308) = true := bne_iff_ne.mpr c18
      obtain rfl := Option.some.inj H
      have hcz27_0 : wc.cell? ⟨gb296, 0, none⟩ = some (.int .i64 a0_0) := vb BK296 0
      have hcz27_1 : wc.cell? ⟨gb296, 1, none⟩ = some (.int .i64 a0_1) := vb BK296 1
      have hcz27_2 : wc.cell? ⟨gb296, 2, none⟩ = some (.int .i64 a0_2) := vb BK296 2
      have hcz27_3 : wc.cell? ⟨gb296, 3, none⟩ = some (.slice A0_3 l0_3.length c0_3) := vb BK296 3
      have hfz27_0 := blk_frozen BK296.out 0
      have hfz27_1 := blk_frozen BK296.out 1
      have hfz27_2 := blk_frozen BK296.out 2
      have hfz27_3 := blk_frozen BK296.out 3
      go_wp2_with (first | ((with_reducible refine gate_callee (f := 24) rfl ?_); refine goesL_ (some 37) rfl rfl Tryd.func24 zk rfl #[.agg #[.int .i64 a0_0, .int .i64 a0_1, .int .i64 a0_2, .slice A0_3 l0_3.length c0_3], .slice A1 l1.length c1, .int .i64 a2] rfl zm ?_; (with_reducible refine (kernel_Can.calls a0_0 a0_1 a0_2 _ _ l0_3 _ _ l1 a2 t301 t304 _ ?side1 ?side2 ?side3 ?side4 ?side5 A14.out).mono ?_); (case side1 => repeat (first | exact (Kd.C_below HR0_3.out HB.out) | (with_reducible refine Kd.C_alloc ?_ _) | (with_reducible refine Kd.C_drewN ?_ _) | (with_reducible refine Kd.C_drew ?_))); (case side2 => exact HC0_3.out); (case side3 => repeat (first | exact (Kd.C_below HR1.out HB.out) | (with_reducible refine Kd.C_alloc ?_ _) | (with_reducible refine Kd.C_drewN ?_ _) | (with_reducible refine Kd.C_drew ?_))); (case side4 => exact HC1.out); (case side5 => exact Glob.below HG.out zb); rintro e w28 ⟨v302, rfl, ho0, hb⟩; refine ⟨_, rfl, ?_⟩; have n0_ := zh (Kd.V_lower (Kd.V_mono (ok' := fun k_ => k_ ≠ gb296) ho0 (fun k_ hk_ => (Kd.freshB (g := gb296) (o := .cells #[.int .i64 a0_0, .int .i64 a0_1, .int .i64 a0_2, .slice A0_3 l0_3.length c0_3] 24 (0, 0)) (zc BK296) k_ hk_))) (below_size zb)); have n1_ := zh (blk_below (g := gb296) (o := .cells #[.int .i64 a0_0, .int .i64 a0_1, .int .i64 a0_2, .slice A0_3 l0_3.length c0_3] 24 (0, 0)) (zc BK296) hb); have n2_ := zh (below_step zb hb); clear BK296; clear HB; have HO303 := n0_; have BK296 := n1_; have HB := n2_; clear n0_ n1_ n2_; (try clear hb); (try clear hb2); (try clear hk); (try clear hi); (try clear ho0); have hcz29_0 : w28.cell? ⟨gb296, 0, none⟩ = some (.int .i64 a0_0) := vb BK296 0; have hcz29_1 : w28.cell? ⟨gb296, 1, none⟩ = some (.int .i64 a0_1) := vb BK296 1; have hcz29_2 : w28.cell? ⟨gb296, 2, none⟩ = some (.int .i64 a0_2) := vb BK296 2; have hcz29_3 : w28.cell? ⟨gb296, 3, none⟩ = some (.slice A0_3 l0_3.length c0_3) := vb BK296 3; have hfz29_0 := blk_frozen BK296.out 0; have hfz29_1 := blk_frozen BK296.out 1; have hfz29_2 := blk_frozen BK296.out 2; have hfz29_3 := blk_frozen BK296.out 3) | ((with_reducible refine gate_callee (f := 25) rfl ?_); refine goesL_ (some 44) rfl rfl Tryd.func25 zk rfl #[.agg #[.int .i64 a0_0, .int .i64 a0_1, .int .i64 a0_2, .slice A0_3 l0_3.length c0_3], .slice A1 l1.length c1, .int .i64 a2] rfl zm ?_; (with_reducible refine (saronref06_Can.calls kj5 a0_0 a0_1 a0_2 _ _ l0_3 _ _ l1 a2 t305 t308 _ ?side1 ?side2 ?side3 ?side4 A15.out).mono ?_); (case side1 => repeat (first | exact (Kd.C_below HR0_3.out HB.out) | (with_reducible refine Kd.C_alloc ?_ _) | (with_reducible refine Kd.C_drewN ?_ _) | (with_reducible refine Kd.C_drew ?_))); (case side2 => exact HC0_3.out); (case side3 => repeat (first | exact (Kd.C_below HR1.out HB.out) | (with_reducible refine Kd.C_alloc ?_ _) | (with_reducible refine Kd.C_drewN ?_ _) | (with_reducible refine Kd.C_drew ?_))); (case side4 => exact HC1.out); rintro e w30 ⟨v306, rfl, ho0, hb⟩; refine ⟨_, rfl, ?_⟩; have n0_ := zh (Kd.V_elder' (zV HO303) (Kd.R_base ho0) hb); have n1_ := zh (Kd.R_lower ho0 (below_size zb)); have n2_ := zh (blk_below (g := gb296) (o := .cells #[.int .i64 a0_0, .int .i64 a0_1, .int .i64 a0_2, .slice A0_3 l0_3.length c0_3] 24 (0, 0)) (zc BK296) hb); have n3_ := zh (below_step zb hb); clear HO303; clear BK296; clear HB; have HO303 := n0_; have HO307 := n1_; have BK296 := n2_; have HB := n3_; clear n0_ n1_ n2_ n3_; (try clear hb); (try clear hb2); (try clear hk); (try clear hi); (try clear ho0); obtain ⟨Ao31, co31, eo31⟩ := Kd.V_slice HO303.out; subst eo31; obtain ⟨Ao32, co32, eo32⟩ := Kd.R_slice HO307.out; subst eo32) | ((with_reducible refine gate_callee (f := 18) rfl ?_); refine goesL_ (some 49) rfl rfl Tryd.func18 zk rfl #[.slice Ao31 t301.length co31, .slice Ao32 t305.length co32] rfl zm ?_; (with_reducible refine (saronref00_Equal.calls kj5 _ _ t301 _ _ t305 true _ ?side1 ?side2 ?side3 ?side4 A16.out).mono ?_); (case side1 => repeat (first | exact (Kd.V_reads' HO303.out).2.2 | (with_reducible refine Kd.C_alloc ?_ _) | (with_reducible refine Kd.C_drewN ?_ _) | (with_reducible refine Kd.C_drew ?_))); (case side2 => exact (Kd.V_reads' HO303.out).2.1); (case side3 => repeat (first | exact (Kd.R_reads' HO307.out).2.2 | (with_reducible refine Kd.C_alloc ?_ _) | (with_reducible refine Kd.C_drewN ?_ _) | (with_reducible refine Kd.C_drew ?_))); (case side4 => exact (Kd.R_reads' HO307.out).2.1); rintro e w' ⟨rfl, ⟨nd, rfl⟩⟩; refine ⟨_, rfl, ?_⟩))
      go_ret
      exact ⟨zf, zb⟩
    ·replace c17 := Bool.eq_false_iff.mpr c17
     subst c17
     have H1 : (some false) = some r := by rw [if_neg (show ¬ (false = true) by decide)] at H; exact H
     clear H
     have H := H1
     clear H1
     obtain rfl := Option.some.inj H
     have hcz33_0 : wc.cell? ⟨gb296, 0, none⟩ = some (.int .i64 a0_0) := vb BK296 0
     have hcz33_1 : wc.cell? ⟨gb296, 1, none⟩ = some (.int .i64 a0_1) := vb BK296 1
     have hcz33_2 : wc.cell? ⟨gb296, 2, none⟩ = some (.int .i64 a0_2) := vb BK296 2
     have hcz33_3 : wc.cell? ⟨gb296, 3, none⟩ = some (.slice A0_3 l0_3.length c0_3) := vb BK296 3
     have hfz33_0 := blk_frozen BK296.out 0
     have hfz33_1 := blk_frozen BK296.out 1
     have hfz33_2 := blk_frozen BK296.out 2
     have hfz33_3 := blk_frozen BK296.out 3
     go_wp2_with (first | ((with_reducible refine gate_callee (f := 24) rfl ?_); refine goesL_ (some 37) rfl rfl Tryd.func24 zk rfl #[.agg #[.int .i64 a0_0, .int .i64 a0_1, .int .i64 a0_2, .slice A0_3 l0_3.length c0_3], .slice A1 l1.length c1, .int .i64 a2] rfl zm ?_; (with_reducible refine (kernel_Can.calls a0_0 a0_1 a0_2 _ _ l0_3 _ _ l1 a2 t301 t304 _ ?side1 ?side2 ?side3 ?side4 ?side5 A14.out).mono ?_); (case side1 => repeat (first | exact (Kd.C_below HR0_3.out HB.out) | (with_reducible refine Kd.C_alloc ?_ _) | (with_reducible refine Kd.C_drewN ?_ _) | (with_reducible refine Kd.C_drew ?_))); (case side2 => exact HC0_3.out); (case side3 => repeat (first | exact (Kd.C_below HR1.out HB.out) | (with_reducible refine Kd.C_alloc ?_ _) | (with_reducible refine Kd.C_drewN ?_ _) | (with_reducible refine Kd.C_drew ?_))); (case side4 => exact HC1.out); (case side5 => exact Glob.below HG.out zb); rintro e w34 ⟨v302, rfl, ho0, hb⟩; refine ⟨_, rfl, ?_⟩; have n0_ := zh (Kd.V_lower (Kd.V_mono (ok' := fun k_ => k_ ≠ gb296) ho0 (fun k_ hk_ => (Kd.freshB (g := gb296) (o := .cells #[.int .i64 a0_0, .int .i64 a0_1, .int .i64 a0_2, .slice A0_3 l0_3.length c0_3] 24 (0, 0)) (zc BK296) k_ hk_))) (below_size zb)); have n1_ := zh (blk_below (g := gb296) (o := .cells #[.int .i64 a0_0, .int .i64 a0_1, .int .i64 a0_2, .slice A0_3 l0_3.length c0_3] 24 (0, 0)) (zc BK296) hb); have n2_ := zh (below_step zb hb); clear BK296; clear HB; have HO303 := n0_; have BK296 := n1_; have HB := n2_; clear n0_ n1_ n2_; (try clear hb); (try clear hb2); (try clear hk); (try clear hi); (try clear ho0); have hcz35_0 : w34.cell? ⟨gb296, 0, none⟩ = some (.int .i64 a0_0) := vb BK296 0; have hcz35_1 : w34.cell? ⟨gb296, 1, none⟩ = some (.int .i64 a0_1) := vb BK296 1; have hcz35_2 : w34.cell? ⟨gb296, 2, none⟩ = some (.int .i64 a0_2) := vb BK296 2; have hcz35_3 : w34.cell? ⟨gb296, 3, none⟩ = some (.slice A0_3 l0_3.length c0_3) := vb BK296 3; have hfz35_0 := blk_frozen BK296.out 0; have hfz35_1 := blk_frozen BK296.out 1; have hfz35_2 := blk_frozen BK296.out 2; have hfz35_3 := blk_frozen BK296.out 3) | ((with_reducible refine gate_callee (f := 25) rfl ?_); refine goesL_ (some 44) rfl rfl Tryd.func25 zk rfl #[.agg #[.int .i64 a0_0, .int .i64 a0_1, .int .i64 a0_2, .slice A0_3 l0_3.length c0_3], .slice A1 l1.length c1, .int .i64 a2] rfl zm ?_; (with_reducible refine (saronref06_Can.calls kj5 a0_0 a0_1 a0_2 _ _ l0_3 _ _ l1 a2 t305 t308 _ ?side1 ?side2 ?side3 ?side4 A15.out).mono ?_); (case side1 => repeat (first | exact (Kd.C_below HR0_3.out HB.out) | (with_reducible refine Kd.C_alloc ?_ _) | (with_reducible refine Kd.C_drewN ?_ _) | (with_reducible refine Kd.C_drew ?_))); (case side2 => exact HC0_3.out); (case side3 => repeat (first | exact (Kd.C_below HR1.out HB.out) | (with_reducible refine Kd.C_alloc ?_ _) | (with_reducible refine Kd.C_drewN ?_ _) | (with_reducible refine Kd.C_drew ?_))); (case side4 => exact HC1.out); rintro e w36 ⟨v306, rfl, ho0, hb⟩; refine ⟨_, rfl, ?_⟩; have n0_ := zh (Kd.V_elder' (zV HO303) (Kd.R_base ho0) hb); have n1_ := zh (Kd.R_lower ho0 (below_size zb)); have n2_ := zh (blk_below (g := gb296) (o := .cells #[.int .i64 a0_0, .int .i64 a0_1, .int .i64 a0_2, .slice A0_3 l0_3.length c0_3] 24 (0, 0)) (zc BK296) hb); have n3_ := zh (below_step zb hb); clear HO303; clear BK296; clear HB; have HO303 := n0_; have HO307 := n1_; have BK296 := n2_; have HB := n3_; clear n0_ n1_ n2_ n3_; (try clear hb); (try clear hb2); (try clear hk); (try clear hi); (try clear ho0); obtain ⟨Ao37, co37, eo37⟩ := Kd.V_slice HO303.out; subst eo37; obtain ⟨Ao38, co38, eo38⟩ := Kd.R_slice HO307.out; subst eo38) | ((with_reducible refine gate_callee (f := 18) rfl ?_); refine goesL_ (some 49) rfl rfl Tryd.func18 zk rfl #[.slice Ao37 t301.length co37, .slice Ao38 t305.length co38] rfl zm ?_; (with_reducible refine (saronref00_Equal.calls kj5 _ _ t301 _ _ t305 false _ ?side1 ?side2 ?side3 ?side4 A16.out).mono ?_); (case side1 => repeat (first | exact (Kd.V_reads' HO303.out).2.2 | (with_reducible refine Kd.C_alloc ?_ _) | (with_reducible refine Kd.C_drewN ?_ _) | (with_reducible refine Kd.C_drew ?_))); (case side2 => exact (Kd.V_reads' HO303.out).2.1); (case side3 => repeat (first | exact (Kd.R_reads' HO307.out).2.2 | (with_reducible refine Kd.C_alloc ?_ _) | (with_reducible refine Kd.C_drewN ?_ _) | (with_reducible refine Kd.C_drew ?_))); (case side4 => exact (Kd.R_reads' HO307.out).2.1); rintro e w' ⟨rfl, ⟨nd, rfl⟩⟩; refine ⟨_, rfl, ?_⟩))
     go_ret
     exact ⟨zf, zb⟩
end Go.Proofs.YtagkfkdoibnhfaaDoor.H
end
section
namespace Go.Proofs.YtagkfkdoibnhfaaDoor.K
open Go.RowKit Go.Proofs.YtagkfkdoibnhfaaDoorW.PrintWords Go.Proofs.YtagkfkdoibnhfaaDoorW.PrintMore Go.Proofs.YtagkfkdoibnhfaaDoor.H
def hasTone (place t : Int) (C : List (Int × Int)) : Bool := C.any fun p => decide (side p place = t)
section
variable (T O L place : Int) (R : List S66) (ls : List (List S61)) (C : List (Int × Int)) (P m : Nat) (h0 : 0 ≤ place) (h1 : place ≤ 1000) (hP : place / 2 = (P : Int)) (hlt : P < ls.length) (hC : ls[P] = C.map mk61) (hlen : C.length ≤ 10000) (hm : T * O = (m : Int)) (hm' : m ≤ 21)
include h0 h1 hP hlt hC hlen hm hm'
theorem can_l1 (t : Nat) (K0 : Nat) (Fc : List Int → List Int) (hc : ∀ (k : Nat) (acc : List Int), K0 ≤ k → acc.length ≤ t + 1 → saronref06_Can.l0 k place ls acc ((t + 1 : Nat) : Int) T O L R = some (Fc acc, 0)) (ht : t < m) (d : Nat) :
  ∀ (k j : Nat) (acc : List Int) (found : Bool), C.length - j = d → j ≤ C.length → acc.length ≤ t → K0 + d + 1 ≤ k →
   saronref06_Can.l1 k place ls acc (t : Int) found (j : Int) T O L R = some (Fc (if (found || hasTone place (t : Int) (C.drop j)) = true then acc ++ [(t : Int)] else acc), 0) := by
 have hdv : wrap64 (Int.tdiv place 2) = (P : Int) := by rw [Int.tdiv_eq_ediv_of_nonneg h0, hP]; exact w64 (by omega) (by omega)
 have hmd : Int.tmod place 2 = place % 2 := Int.tmod_eq_emod_of_nonneg h0
 have hlen' : ls[P].length = C.length := by rw [hC, List.length_map]
 induction d with
 | zero =>
  intro k j acc found hd hj hl hk
  obtain ⟨k, rfl⟩ : ∃ z, k = z + 1 := ⟨k - 1, by omega⟩
  obtain rfl : j = C.length := by omega
  simp only [saronref06_Can.l1]
  rw [hdv]
  clear hdv
  rw [if_pos (by omega), if_pos (by omega), rdL9 ls P hlt, hlen', if_neg (by omega), up1 t (by omega), List.drop_length]
  cases found
  ·rw [if_neg (by simp), hc k acc (by omega) (by omega)]
   rfl
  ·rw [if_pos rfl, if_pos (by omega), hc k _ (by omega) (by simp; omega)]
   rfl
 | succ d ih =>
  intro k j acc found hd hj hl hk
  obtain ⟨k, rfl⟩ : ∃ z, k = z + 1 := ⟨k - 1, by omega⟩
  have hjl : j < C.length := by omega
  have ih' := fun found => ih k (j + 1) acc found (by omega) (by omega) hl (by omega)
  have eg : rd_T61 ls[P] (j : Int) = mk61 C[j] := by
   rw [rd61 _ j (by omega)]
   simp [hC]
  simp only [saronref06_Can.l1]
  rw [hdv]
  clear hdv
  rw [if_pos (by omega), if_pos (by omega), rdL9 ls P hlt, hlen', if_pos (by omega), up1 j (by omega), List.drop_eq_getElem_cons hjl]
  have ha : hasTone place (t : Int) (C[j] :: C.drop (j + 1)) = (decide (side C[j] place = (t : Int)) || hasTone place (t : Int) (C.drop (j + 1))) := rfl
  cases found
  ·rw [if_neg (by simp), if_pos (by omega), hmd, eg, ha, Bool.false_or]
   have hs : place % 2 = 0 ∨ place % 2 = 1 := by omega
   rcases hs with hs | hs
   ·rw [if_pos hs, ih']
    have e : ((mk61 C[j]).f0 == (t : Int)) = decide (side C[j] place = (t : Int)) := by unfold side mk61; rw [if_pos hs, beq_dec]
    rw [e]
   ·rw [if_neg (by omega), if_pos hs, ih']
    have e : ((mk61 C[j]).f1 == (t : Int)) = decide (side C[j] place = (t : Int)) := by unfold side mk61; rw [if_neg (by omega), beq_dec]
    rw [e]
  ·rw [if_pos rfl, ih', Bool.true_or, Bool.true_or]
theorem can_l0 (d : Nat) : ∀ (k t : Nat) (acc : List Int), m - t = d → t ≤ m → acc.length ≤ t → d * (C.length + 2) + 1 ≤ k →
  saronref06_Can.l0 k place ls acc (t : Int) T O L R = some (acc ++ (irange (t : Int) ((m : Int) - 1)).filter (fun t => hasTone place t C), 0) := by
 induction d with
 | zero =>
  intro k t acc hd ht hl hk
  obtain ⟨k, rfl⟩ : ∃ z, k = z + 1 := ⟨k - 1, by omega⟩
  obtain rfl : t = m := by omega
  simp only [saronref06_Can.l0]
  rw [tones_f T O L R t hm hm', Option.bind_some, if_neg (by omega), irange_nil (by omega)]
  simp
 | succ d ih =>
  intro k t acc hd ht hl hk
  have e0 : (d + 1) * (C.length + 2) = d * (C.length + 2) + (C.length + 2) := by rw [Nat.add_mul, Nat.one_mul]
  obtain ⟨k, rfl⟩ : ∃ z, k = z + 1 := ⟨k - 1, by omega⟩
  have hl1 := can_l1 T O L place R ls C P m h0 h1 hP hlt hC hlen hm hm' t (d * (C.length + 2) + 1) (fun acc => acc ++ (irange ((t + 1 : Nat) : Int) ((m : Int) - 1)).filter (fun t => hasTone place t C)) (fun k acc hk hl => ih k (t + 1) acc (by omega) (by omega) hl hk) (by omega) C.length k 0 acc false (Nat.sub_zero _) (Nat.zero_le _) hl (by omega)
  simp only [saronref06_Can.l0]
  rw [tones_f T O L R m hm hm', Option.bind_some, if_pos (by omega)]
  refine hl1.trans ?_
  rw [List.drop_zero, Bool.false_or, irange_cons (lo := (t : Int)) (hi := (m : Int) - 1) (by omega), List.filter_cons]
  cases hasTone place (t : Int) C
  ·rfl
  ·rw [if_pos rfl, if_pos rfl, List.append_assoc]; rfl
end
theorem rCan_f (T O L place : Int) (R : List S66) (hs : List S60) (hp0 : -9223372036854775808 ≤ place) (hL0 : -9223372036854775808 ≤ L) (hR : R.length ≤ 9223372036854775807) (hl : Lens hs) (k : Nat) (hk : askFuel hs + 2 * R.length + 300000 ≤ k) : saronref06_Can.f k T O L R hs place = some (Can T O L R hs place) := by
 unfold saronref06_Can.f Can askedErr
 rw [asked_f T O L R hs hR hl k (by omega), Option.bind_some]
 cases hS : okScale T O L R
 ·rfl
 cases hH : okHeard L R hs
 ·rfl
 obtain ⟨t1, t2, t3, t4, t5, t6, t7, t8, t9, hok⟩ := okScale_regs hS
 have mr := mul_range t1 t2 t3 t4
 obtain ⟨m, hm⟩ : ∃ m : Nat, T * O = (m : Int) := Int.eq_ofNat_of_zero_le (by omega)
 rw [if_pos rfl, if_pos rfl, if_pos rfl, sits_f, Option.bind_some, w64 (n := L - 1) (by omega) (by omega)]
 by_cases hb : 0 ≤ place ∧ place < L
 ·rw [decide_eq_true hb.1, decide_eq_true (by omega : place ≤ L - 1), decide_eq_true hb.2, if_pos rfl, all_f T O L m R hs hS hH hm (by omega) k (by omega), Option.bind_some]
  cases hC : canAll T O L R hs
  ·rfl
  rw [if_pos rfl]
  obtain ⟨P, hP⟩ : ∃ P : Nat, place / 2 = (P : Int) := Int.eq_ofNat_of_zero_le (by omega)
  have hcl := choices_len T O R hs P m hm (by omega)
  have hlen : (allFrom T O L R hs 0).length = (L / 2).toNat := by unfold allFrom; rw [List.length_map, irange_length]; omega
  have hlt : P < (allFrom T O L R hs 0).length := by omega
  have hget : (allFrom T O L R hs 0)[P] = (choices T O R hs (P : Int)).map mk61 := by
   unfold allFrom irange
   simp
  have hfu : m * ((choices T O R hs (P : Int)).length + 2) ≤ 21 * 10002 := Nat.mul_le_mul (by omega) (by omega)
  have h := can_l0 T O L place R (allFrom T O L R hs 0) (choices T O R hs (P : Int)) P m hb.1 (by omega) hP hlt hget hcl hm (by omega) m k 0 [] (Nat.sub_zero _) (Nat.zero_le _) (Nat.le_refl _) (by omega)
  refine h.trans ?_
  simp only [if_true]
  unfold canOf
  rw [hm, hP]
  rfl
 ·have e1 : (decide (0 ≤ place) && decide (place ≤ L - 1)) = false := by
   by_cases h : 0 ≤ place
   ·rw [decide_eq_false (by omega : ¬ place ≤ L - 1), Bool.and_false]
   ·rw [decide_eq_false h, Bool.false_and]
  have e2 : (decide (0 ≤ place) && decide (place < L)) = false := by
   by_cases h : 0 ≤ place
   ·rw [decide_eq_false (by omega : ¬ place < L), Bool.and_false]
   ·rw [decide_eq_false h, Bool.false_and]
  rw [e1, e2]
  rfl
theorem Can_len (T O L place : Int) (R : List S66) (hs : List S60) : (Can T O L R hs place).1.length ≤ 100 := by
 unfold Can
 split
 ·rename_i h
  have hS : okScale T O L R = true := by
   unfold askedErr at h
   split at h
   ·assumption
   ·omega
  obtain ⟨t1, t2, t3, t4, t5, t6, t7, t8, t9, hok⟩ := okScale_regs hS
  have mr := mul_range t1 t2 t3 t4
  show (canOf T O R hs place).length ≤ 100
  unfold canOf
  refine Nat.le_trans (List.length_filter_le _ _) ?_
  rw [irange_length]
  omega
 ·simp
theorem many_law (T O L place : Int) (R : List S66) (hs : List S60) (hp0 : -9223372036854775808 ≤ place) (hL0 : -9223372036854775808 ≤ L) (hR : R.length ≤ 9223372036854775807) (hl : Lens hs) (k : Nat) (hk : askFuel hs + 2 * R.length + 300010 ≤ k) :
  saronlaw06_KernelMany.f k T O L R hs place = some true := by
 have hcl := Can_len T O L place R hs
 obtain ⟨k, rfl⟩ : ∃ z, k = z + 1 := ⟨k - 1, by omega⟩
 unfold saronlaw06_KernelMany.f kernel_Many.f
 rw [Option.bind_some, rMany_f T O L R hs hR hl (k + 1) (by omega), Option.bind_some, if_pos rfl, bne_self_eq_false]
 simp only [saronlaw06_KernelMany.j0, kernel_Can.f, Option.bind_some]
 rw [if_neg (by simp), rCan_f T O L place R hs hp0 hL0 hR hl k (by omega), Option.bind_some, equal_self _ (by omega) k (by omega), Option.bind_some, if_pos rfl, if_pos rfl]
 rfl
end Go.Proofs.YtagkfkdoibnhfaaDoor.K
end
section
namespace Go.Proofs.YtagkfkdoibnhfaaDoor.kernelMany
open Go.ChangeShapes Go.WideShapes Go.ChangeAt Go.RowKit Go.Proofs.YtagkfkdoibnhfaaDoorW.PrintWords Go.Proofs.YtagkfkdoibnhfaaDoor.H Go.Proofs.YtagkfkdoibnhfaaDoor.K
set_option linter.unusedVariables false
theorem own : ownKnob Tryd.prog.godebug = none := by kernel_rfl
theorem laidOut : laidOutB Tryd.prog = true := by kernel_rfl
theorem door_met (os : Os) (args : Array Value) : laidMetH Tryd.prog laid1 ((World.doorLaid Tryd.prog 600 os).forCall (fun _ _ => 0) ⟨#[], args, []⟩).memory :=
 laidMetH_of_parts3 (fuel := 8) (laidMet_of_run' 8 zk zk) zk zk
set_option maxRecDepth 100000 in
set_option maxHeartbeats 2000000 in
theorem lifted (os : Os) (started : os.Started) (H : Type) (enc : TypeId × Value → H) :
  ReturnsInHanded {} Tryd.checked os 4 .any (fun w args => (Rows.kernelManySpec.pre enc Tryd.prog Tryd.f4 [] false w args ∧ laidMetH Tryd.prog laid1 w) ∧ sizedMet enc Tryd.prog Tryd.f4 (OpenSpec.ofChange Rows.kernelManySpec) false w args)
   (Rows.kernelManySpec.post enc Tryd.prog Tryd.f4 false true false false) := by
 refine returnsInHanded_of_change_and (C := Tryd.checked) (X := fun w _ => laidMetH Tryd.prog laid1 w) (fun _ _ _ hh h => h.of_heap hh) own started zk Tryd.func4
  (ChangeSpec.witness_shaped (enc := enc) (C := Tryd.checked) (os := os) (X := fun w _ => laidMetH Tryd.prog laid1 w) false (World.doorLaid Tryd.prog 600 os) #[.agg #[.int .i64 0, .int .i64 0, .int .i64 0, .slice none 0 0], .slice none 0 0, .int .i64 0] 8 rfl (World.shaped_of_RefB zk zk) zk zk zk (door_met os _)) ?_
 intro W base args ds gs before hval0 hW _ _ hL _
 have hval : ∀ (j : Nat) t v, Tryd.f4.params[j]? = some t → args[j]? = some v → Value.okWide Tryd.prog W .any base t v := hval0
 have hW' := hW
 obtain ⟨p, q, hA0, hV, rfl, hfz, hnd⟩ := hW
 have hA : DataW.TrodAll enc Tryd.prog W 0 (fun _ => true) true Tryd.f4.params.toList args.toList ds p := hA0
 rw [Tryd.params4] at hA hval
 obtain ⟨v0, vs0, d0, ds0, p0, q0, hargs, rfl, rfl, h0, r0⟩ := trodAll_cons hA
 obtain ⟨v1, vs1, d1, ds1, p1, q1, rfl, rfl, rfl, h1, r1⟩ := trodAll_cons r0
 obtain ⟨v2, vs2, d2, ds2, p2, q2, rfl, rfl, rfl, h2, r2⟩ := trodAll_cons r1
 obtain ⟨rfl, rfl, rfl⟩ := trodAll_nil r2
 obtain rfl : args = #[v0, v1, v2] := by cases args; simp_all
 obtain ⟨rfl, rfl⟩ := trodVars_none hV
 have k0 := h0
 have lt0 : ∀ x ∈ p0, x.block < W.heap.size := by obtain ⟨m, hm⟩ := k0; exact DataW.trod_lt m _ _ _ hm
 obtain ⟨T0, O0, L0, A0, R0, c0, rfl, hc0, hC0, iT0, iO0, iL0, sR0, iR0⟩ := arg_scale (hval 0 24 v0 rfl rfl) h0
 have k1 := h1
 have lt1 : ∀ x ∈ p1, x.block < W.heap.size := by obtain ⟨m, hm⟩ := k1; exact DataW.trod_lt m _ _ _ hm
 obtain ⟨A1, l1, c1, rfl, hc1, hC1, s1, i1⟩ := arg_heard (hval 1 33 v1 rfl rfl) h1
 obtain ⟨a2, rfl, rfl, rfl, w2⟩ := open_int Tryd.underlying3 (hval 2 3 v2 rfl rfl) h2
 clear hA0 hval0
 have hG := glob_of_laid hL
 refine (saronlaw06_KernelMany.calls (askFuel l1 + 2 * R0.length + 300010) T0 O0 L0 A0 c0 R0 A1 c1 l1 a2 true W hC0 hc0 hC1 hc1 hG (many_law T0 O0 L0 a2 R0 l1 (i64_of_wf w2).1 iL0.1 sR0 ⟨s1, fun h hh => (i1 h hh).2.1⟩ _ (Nat.le_refl _))).mono fun e W' ⟨he, bel⟩ => ?_
 subst he
 exact ⟨_, rfl, _, _, _, [], _, [], hW', trodAll_mk1 (shut_bool Tryd.underlying4 _), (trodAll_cons_mk (Below.trod laidOut zk (of_decide_eq_true zk) k0 bel lt0) (trodAll_cons_mk (Below.trod laidOut zk (of_decide_eq_true zk) k1 bel lt1) (trodAll_cons_mk (shut_int Tryd.underlying3 w2) trodAll_mk0))), rfl, bel.frame _, fun h => by cases h⟩
theorem over : Rows.kernelManyRow.holds Tryd.pinned (OpenSpec.ofChange Rows.kernelManySpec) :=
 OpenClaim.holds_of_wide 4 Tryd.f4 rfl rfl rfl rfl rfl rfl rfl ⟨rfl, rfl, rfl, rfl, rfl⟩ rfl rfl rfl rfl rfl zk Tryd.func4 zk
  (of_decide_eq_true zk) (by unfold Func.isWrapper; first | (rw [if_pos (by decide +kernel)]; kernel_rfl) | (rw [if_neg (by decide +kernel)]; exact ⟨rfl, rfl⟩))
  (fun os started H enc _ => lifted os started H enc)
theorem proved : Rows.KernelManyCardSaid :=
 Claim7.holds_tied_plain_at .later [] [.funcs] true (true, "1546f209dbcbef264cbb20aea537f6d5569935ba401e115858a8843598e79524") false
  over (fun _ h => by cases h) zk (fun _ h => by cases h) kernelMany_row_tie rfl ⟨rfl, rfl⟩ zk rfl
  (fun f fn hf hfn => by
   obtain rfl : f = 4 := Option.some.inj ((show Tryd.prog.funcNamed "saron/saronlaw06.KernelMany" = some 4 by kernel_rfl).symm.trans hf) |>.symm
   obtain rfl : fn = Tryd.f4 := (Option.some.inj (Tryd.func4.symm.trans hfn)).symm
   exact ⟨by kernel_rfl, fun j t ht => by
    rw [Tryd.params4] at ht
    have hm : t ∈ [24, 33, 3] := by simpa using Array.mem_of_getElem? ht
    have hall : ([24, 33, 3].all fun u => !Tryd.prog.wantsStandIn u) = true := by kernel_rfl
    exact (show Tryd.prog.wantsStandIn t = false by simpa using List.all_eq_true.1 hall t hm)⟩)
  zk
end Go.Proofs.YtagkfkdoibnhfaaDoor.kernelMany
namespace Go.Proofs.YtagkfkdoibnhfaaDoor
theorem kernelMany_card : Rows.KernelManyCardSaid := kernelMany.proved
end Go.Proofs.YtagkfkdoibnhfaaDoor
end
