/- KernelPairs: for every scale and any two registers the law returns true, and each argument reads afterwards as it read before. Condition: when the call begins the package's table of rules reads as the program's text lays it; the card ties that to the text. -/
import Derived.Below
import Derived.Carry
import Derived.LaidMore
import Derived.OpenShut
import Derived.ProofKit
import Derived.SevenTiedAt
import Derived.SizedLaws
import Derived.Stop.Joined
import Derived.WalkKit
import Derived.Test.YtagkfkdoibnhfaaDoorCards
import Derived.Test.YtagkfkdoibnhfaaDoorTie
import Derived.Test.YtagkfkdoibnhfaaDoorZB2
import Derived.Test.YtagkfkdoibnhfaaDoorZB4
import Derived.Test.YtagkfkdoibnhfaaDoorZPairs1
set_option linter.all false
section
namespace Go.Proofs.YtagkfkdoibnhfaaDoor.H
open Go.RowKit Go.Proofs.YtagkfkdoibnhfaaDoorW.PrintWords Go.Proofs.YtagkfkdoibnhfaaDoorW.PrintLast Go.Proofs.YtagkfkdoibnhfaaDoorW.PrintMore
attribute [local go_sem] max2_int min2_int max_two min_two max_three min_three max_four min_four   -- for this text's walks alone
set_option linter.unusedVariables false
set_option linter.unusedSimpArgs false
def saronref06_AreTwins.f (k : Nat) (a0_0 : Int) (a0_1 : Int) (a0_2 : Int) (l0_3 : List (S66)) (a1 : Int) (a2 : Int) (l3 : List Int) (l4 : List Int) : Option (Bool) := (saronref06_Part.f k a0_0 a0_1 a0_2 l0_3 l3 a1).bind fun bt423 => ((saronref06_Part.f k a0_0 a0_1 a0_2 l0_3 l4 a1).bind fun bt427 => ((saronref06_Part.f k a0_0 a0_1 a0_2 l0_3 l3 a2).bind fun bt431 => ((saronref06_Part.f k a0_0 a0_1 a0_2 l0_3 l4 a2).bind fun bt435 => (if bt423.2 = 0 then (if bt427.2 = 0 then (if bt431.2 = 0 then (if bt435.2 = 0 then ((saronref00_Equal.f k bt423.1 bt427.1).bind fun t439 => (if t439 = true then ((saronref00_Equal.f k bt431.1 bt435.1).bind fun t440 => (if t440 = true then ((saronref00_Equal.f k l3 l4).bind fun t441 => (some (!t441))) else (some false))) else (some false))) else (some false)) else (some false)) else (some false)) else (some false)))))
set_option maxHeartbeats 8000000 in
set_option maxRecDepth 100000 in
theorem saronref06_AreTwins.calls (k : Nat) (a0_0 : Int) (a0_1 : Int) (a0_2 : Int) (A0_3 : Option Addr) (c0_3 : Nat) (l0_3 : List (S66)) (a1 : Int) (a2 : Int) (A3 : Option Addr) (c3 : Nat) (l3 : List Int) (A4 : Option Addr) (c4 : Nat) (l4 : List Int) (r : Bool) (w : World) (hr0_3 : Kd.C k66 w A0_3 l0_3.length l0_3) (hc0_3 : l0_3.length ≤ c0_3) (hr3 : Kd.C (Kd.int .i64) w A3 l3.length l3) (hc3 : l3.length ≤ c3) (hr4 : Kd.C (Kd.int .i64) w A4 l4.length l4) (hc4 : l4.length ≤ c4) (h : saronref06_AreTwins.f k a0_0 a0_1 a0_2 l0_3 a1 a2 l3 l4 = some r) :
  Calls Tryd.prog 38 #[.agg #[.int .i64 a0_0, .int .i64 a0_1, .int .i64 a0_2, .slice A0_3 l0_3.length c0_3], .int .i64 a1, .int .i64 a2, .slice A3 l3.length c3, .slice A4 l4.length c4] w fun e w' => e = .returned (.bool r) ∧ Below w.heap.size w w' := by
 have hu24 := Tryd.underlying24
 have HR0_3 := zh hr0_3
 have HC0_3 := zh hc0_3
 clear hr0_3 hc0_3
 have HR3 := zh hr3
 have HC3 := zh hc3
 clear hr3 hc3
 have HR4 := zh hr4
 have HC4 := zh hc4
 clear hr4 hc4
 have HB := zh (Below.refl w.heap.size w)
 have H : ((saronref06_Part.f k a0_0 a0_1 a0_2 l0_3 l3 a1).bind fun bt423 => ((saronref06_Part.f k a0_0 a0_1 a0_2 l0_3 l4 a1).bind fun bt427 => ((saronref06_Part.f k a0_0 a0_1 a0_2 l0_3 l3 a2).bind fun bt431 => ((saronref06_Part.f k a0_0 a0_1 a0_2 l0_3 l4 a2).bind fun bt435 => (if bt423.2 = 0 then (if bt427.2 = 0 then (if bt431.2 = 0 then (if bt435.2 = 0 then ((saronref00_Equal.f k bt423.1 bt427.1).bind fun t439 => (if t439 = true then ((saronref00_Equal.f k bt431.1 bt435.1).bind fun t440 => (if t440 = true then ((saronref00_Equal.f k l3 l4).bind fun t441 => (some (!t441))) else (some false))) else (some false))) else (some false)) else (some false)) else (some false)) else (some false)))))) = some r := h
 clear h
 replace H := Option.bind_eq_some_iff.mp H
 obtain ⟨⟨t423, t426⟩, A60, H⟩ := H
 replace H : ((saronref06_Part.f k a0_0 a0_1 a0_2 l0_3 l4 a1).bind fun bt427 => ((saronref06_Part.f k a0_0 a0_1 a0_2 l0_3 l3 a2).bind fun bt431 => ((saronref06_Part.f k a0_0 a0_1 a0_2 l0_3 l4 a2).bind fun bt435 => (if t426 = 0 then (if bt427.2 = 0 then (if bt431.2 = 0 then (if bt435.2 = 0 then ((saronref00_Equal.f k t423 bt427.1).bind fun t439 => (if t439 = true then ((saronref00_Equal.f k bt431.1 bt435.1).bind fun t440 => (if t440 = true then ((saronref00_Equal.f k l3 l4).bind fun t441 => (some (!t441))) else (some false))) else (some false))) else (some false)) else (some false)) else (some false)) else (some false))))) = some r := H
 have A6 := zh A60
 clear A60
 replace H := Option.bind_eq_some_iff.mp H
 obtain ⟨⟨t427, t430⟩, A70, H⟩ := H
 replace H : ((saronref06_Part.f k a0_0 a0_1 a0_2 l0_3 l3 a2).bind fun bt431 => ((saronref06_Part.f k a0_0 a0_1 a0_2 l0_3 l4 a2).bind fun bt435 => (if t426 = 0 then (if t430 = 0 then (if bt431.2 = 0 then (if bt435.2 = 0 then ((saronref00_Equal.f k t423 t427).bind fun t439 => (if t439 = true then ((saronref00_Equal.f k bt431.1 bt435.1).bind fun t440 => (if t440 = true then ((saronref00_Equal.f k l3 l4).bind fun t441 => (some (!t441))) else (some false))) else (some false))) else (some false)) else (some false)) else (some false)) else (some false)))) = some r := H
 have A7 := zh A70
 clear A70
 replace H := Option.bind_eq_some_iff.mp H
 obtain ⟨⟨t431, t434⟩, A80, H⟩ := H
 replace H : ((saronref06_Part.f k a0_0 a0_1 a0_2 l0_3 l4 a2).bind fun bt435 => (if t426 = 0 then (if t430 = 0 then (if t434 = 0 then (if bt435.2 = 0 then ((saronref00_Equal.f k t423 t427).bind fun t439 => (if t439 = true then ((saronref00_Equal.f k t431 bt435.1).bind fun t440 => (if t440 = true then ((saronref00_Equal.f k l3 l4).bind fun t441 => (some (!t441))) else (some false))) else (some false))) else (some false)) else (some false)) else (some false)) else (some false))) = some r := H
 have A8 := zh A80
 clear A80
 replace H := Option.bind_eq_some_iff.mp H
 obtain ⟨⟨t435, t438⟩, A90, H⟩ := H
 replace H : (if t426 = 0 then (if t430 = 0 then (if t434 = 0 then (if t438 = 0 then ((saronref00_Equal.f k t423 t427).bind fun t439 => (if t439 = true then ((saronref00_Equal.f k t431 t435).bind fun t440 => (if t440 = true then ((saronref00_Equal.f k l3 l4).bind fun t441 => (some (!t441))) else (some false))) else (some false))) else (some false)) else (some false)) else (some false)) else (some false)) = some r := H
 have A9 := zh A90
 clear A90
 by_cases c10 : t426 = 0
 ·rw [if_pos c10] at H
  have c10b0 : (t426 == 0) = true := beq_iff_eq.mpr c10
  have c10b1 : (t426 != 0) = false := bne_eq_false_iff_eq.mpr c10
  clear c10
  by_cases c11 : t430 = 0
  ·rw [if_pos c11] at H
   have c11b0 : (t430 == 0) = true := beq_iff_eq.mpr c11
   have c11b1 : (t430 != 0) = false := bne_eq_false_iff_eq.mpr c11
   clear c11
   by_cases c12 : t434 = 0
   ·rw [if_pos c12] at H
    have c12b0 : (t434 == 0) = true := beq_iff_eq.mpr c12
    have c12b1 : (t434 != 0) = false := bne_eq_false_iff_eq.mpr c12
    clear c12
    by_cases c13 : t438 = 0
    ·rw [if_pos c13] at H
     have c13b0 : (t438 == 0) = true := beq_iff_eq.mpr c13
     have c13b1 : (t438 != 0) = false := bne_eq_false_iff_eq.mpr c13
     clear c13
     replace H := Option.bind_eq_some_iff.mp H
     obtain ⟨t439, A140, H⟩ := H
     replace H : (if t439 = true then ((saronref00_Equal.f k t431 t435).bind fun t440 => (if t440 = true then ((saronref00_Equal.f k l3 l4).bind fun t441 => (some (!t441))) else (some false))) else (some false)) = some r := H
     have A14 := zh A140
     clear A140
     by_cases c15 : t439 = true
     ·subst c15
      have H1 : ((saronref00_Equal.f k t431 t435).bind fun t440 => (if t440 = true then ((saronref00_Equal.f k l3 l4).bind fun t441 => (some (!t441))) else (some false))) = some r := by rw [if_pos rfl] at H; exact H
      clear H
      have H := H1
      clear H1
      replace H := Option.bind_eq_some_iff.mp H
      obtain ⟨t440, A160, H⟩ := H
      replace H : (if t440 = true then ((saronref00_Equal.f k l3 l4).bind fun t441 => (some (!t441))) else (some false)) = some r := H
      have A16 := zh A160
      clear A160
      by_cases c17 : t440 = true
      ·subst c17
       have H1 : ((saronref00_Equal.f k l3 l4).bind fun t441 => (some (!t441))) = some r := by rw [if_pos rfl] at H; exact H
       clear H
       have H := H1
       clear H1
       replace H := Option.bind_eq_some_iff.mp H
       obtain ⟨t441, A180, H⟩ := H
       replace H : (some (!t441)) = some r := H
       have A18 := zh A180
       clear A180
       obtain rfl := Option.some.inj H
       go_enter Tryd.func38, Tryd.ntmps38
       go_wp2_with (first | ((with_reducible refine gate_dst (N := 5) rfl ?_); refine box_event ?hg (N := 5) ?hd (cs := #[.int .i64 a0_0, .int .i64 a0_1, .int .i64 a0_2, .slice A0_3 l0_3.length c0_3]) (t := 24) ?hr ?_; (case hd => rfl); (case hg => rfl); (case hr => first | (go_simp; done) | (go_simp; rfl)); intro gb422 hg w19 hbox hb; have n0_ := zh (below_step zb hb); have n1_ := zh (hbox); have n2_ := zh ((by rw [hg]; exact (below_size zb) : w.heap.size ≤ gb422)); have n3_ := zh ((by rw [hg]; exact (below_size zb) : w.heap.size ≤ gb422)); clear HB; have HB := n0_; have BK422 := n1_; have GW422 := n2_; have GE422 := n3_; clear n0_ n1_ n2_ n3_; clear hb hbox hg; have hcz20_0 : w19.cell? ⟨gb422, 0, none⟩ = some (.int .i64 a0_0) := vb BK422 0; have hcz20_1 : w19.cell? ⟨gb422, 1, none⟩ = some (.int .i64 a0_1) := vb BK422 1; have hcz20_2 : w19.cell? ⟨gb422, 2, none⟩ = some (.int .i64 a0_2) := vb BK422 2; have hcz20_3 : w19.cell? ⟨gb422, 3, none⟩ = some (.slice A0_3 l0_3.length c0_3) := vb BK422 3; have hfz20_0 := blk_frozen BK422.out 0; have hfz20_1 := blk_frozen BK422.out 1; have hfz20_2 := blk_frozen BK422.out 2; have hfz20_3 := blk_frozen BK422.out 3) | ((with_reducible refine gate_callee (f := 17) rfl ?_); refine goesL_ (some 23) rfl rfl Tryd.func17 zk rfl #[.agg #[.int .i64 a0_0, .int .i64 a0_1, .int .i64 a0_2, .slice A0_3 l0_3.length c0_3], .slice A3 l3.length c3, .int .i64 a1] rfl zm ?_; (with_reducible refine (saronref06_Part.calls k a0_0 a0_1 a0_2 _ _ l0_3 _ _ l3 a1 t423 t426 _ ?side1 ?side2 ?side3 ?side4 A6.out).mono ?_); (case side1 => repeat (first | exact (Kd.C_below HR0_3.out HB.out) | (with_reducible refine Kd.C_alloc ?_ _) | (with_reducible refine Kd.C_drewN ?_ _) | (with_reducible refine Kd.C_drew ?_))); (case side2 => exact HC0_3.out); (case side3 => repeat (first | exact (Kd.C_below HR3.out HB.out) | (with_reducible refine Kd.C_alloc ?_ _) | (with_reducible refine Kd.C_drewN ?_ _) | (with_reducible refine Kd.C_drew ?_))); (case side4 => exact HC3.out); rintro e w21 ⟨v424, rfl, ho0, hb⟩; refine ⟨_, rfl, ?_⟩; have n0_ := zh (Kd.R_lower ho0 (below_size zb)); have n1_ := zh (blk_below (g := gb422) (o := .cells #[.int .i64 a0_0, .int .i64 a0_1, .int .i64 a0_2, .slice A0_3 l0_3.length c0_3] 24 (0, 0)) (zc BK422) hb); have n2_ := zh (below_step zb hb); clear BK422; clear HB; have HO425 := n0_; have BK422 := n1_; have HB := n2_; clear n0_ n1_ n2_; (try clear hb); (try clear hb2); (try clear hk); (try clear hi); (try clear ho0); have hcz22_0 : w21.cell? ⟨gb422, 0, none⟩ = some (.int .i64 a0_0) := vb BK422 0; have hcz22_1 : w21.cell? ⟨gb422, 1, none⟩ = some (.int .i64 a0_1) := vb BK422 1; have hcz22_2 : w21.cell? ⟨gb422, 2, none⟩ = some (.int .i64 a0_2) := vb BK422 2; have hcz22_3 : w21.cell? ⟨gb422, 3, none⟩ = some (.slice A0_3 l0_3.length c0_3) := vb BK422 3; have hfz22_0 := blk_frozen BK422.out 0; have hfz22_1 := blk_frozen BK422.out 1; have hfz22_2 := blk_frozen BK422.out 2; have hfz22_3 := blk_frozen BK422.out 3) | ((with_reducible refine gate_callee (f := 17) rfl ?_); refine goesL_ (some 30) rfl rfl Tryd.func17 zk rfl #[.agg #[.int .i64 a0_0, .int .i64 a0_1, .int .i64 a0_2, .slice A0_3 l0_3.length c0_3], .slice A4 l4.length c4, .int .i64 a1] rfl zm ?_; (with_reducible refine (saronref06_Part.calls k a0_0 a0_1 a0_2 _ _ l0_3 _ _ l4 a1 t427 t430 _ ?side1 ?side2 ?side3 ?side4 A7.out).mono ?_); (case side1 => repeat (first | exact (Kd.C_below HR0_3.out HB.out) | (with_reducible refine Kd.C_alloc ?_ _) | (with_reducible refine Kd.C_drewN ?_ _) | (with_reducible refine Kd.C_drew ?_))); (case side2 => exact HC0_3.out); (case side3 => repeat (first | exact (Kd.C_below HR4.out HB.out) | (with_reducible refine Kd.C_alloc ?_ _) | (with_reducible refine Kd.C_drewN ?_ _) | (with_reducible refine Kd.C_drew ?_))); (case side4 => exact HC4.out); rintro e w23 ⟨v428, rfl, ho0, hb⟩; refine ⟨_, rfl, ?_⟩; have n0_ := zh (Kd.R_elder' (zR HO425) (Kd.R_base ho0) hb); have n1_ := zh (Kd.R_lower (Kd.R_new' ho0 (Kd.R_lt (zR HO425))) (below_size zb)); have n2_ := zh (blk_below (g := gb422) (o := .cells #[.int .i64 a0_0, .int .i64 a0_1, .int .i64 a0_2, .slice A0_3 l0_3.length c0_3] 24 (0, 0)) (zc BK422) hb); have n3_ := zh (below_step zb hb); clear HO425; clear BK422; clear HB; have HO425 := n0_; have HO429 := n1_; have BK422 := n2_; have HB := n3_; clear n0_ n1_ n2_ n3_; (try clear hb); (try clear hb2); (try clear hk); (try clear hi); (try clear ho0); have hcz24_0 : w23.cell? ⟨gb422, 0, none⟩ = some (.int .i64 a0_0) := vb BK422 0; have hcz24_1 : w23.cell? ⟨gb422, 1, none⟩ = some (.int .i64 a0_1) := vb BK422 1; have hcz24_2 : w23.cell? ⟨gb422, 2, none⟩ = some (.int .i64 a0_2) := vb BK422 2; have hcz24_3 : w23.cell? ⟨gb422, 3, none⟩ = some (.slice A0_3 l0_3.length c0_3) := vb BK422 3; have hfz24_0 := blk_frozen BK422.out 0; have hfz24_1 := blk_frozen BK422.out 1; have hfz24_2 := blk_frozen BK422.out 2; have hfz24_3 := blk_frozen BK422.out 3) | ((with_reducible refine gate_callee (f := 17) rfl ?_); refine goesL_ (some 37) rfl rfl Tryd.func17 zk rfl #[.agg #[.int .i64 a0_0, .int .i64 a0_1, .int .i64 a0_2, .slice A0_3 l0_3.length c0_3], .slice A3 l3.length c3, .int .i64 a2] rfl zm ?_; (with_reducible refine (saronref06_Part.calls k a0_0 a0_1 a0_2 _ _ l0_3 _ _ l3 a2 t431 t434 _ ?side1 ?side2 ?side3 ?side4 A8.out).mono ?_); (case side1 => repeat (first | exact (Kd.C_below HR0_3.out HB.out) | (with_reducible refine Kd.C_alloc ?_ _) | (with_reducible refine Kd.C_drewN ?_ _) | (with_reducible refine Kd.C_drew ?_))); (case side2 => exact HC0_3.out); (case side3 => repeat (first | exact (Kd.C_below HR3.out HB.out) | (with_reducible refine Kd.C_alloc ?_ _) | (with_reducible refine Kd.C_drewN ?_ _) | (with_reducible refine Kd.C_drew ?_))); (case side4 => exact HC3.out); rintro e w25 ⟨v432, rfl, ho0, hb⟩; refine ⟨_, rfl, ?_⟩; have n0_ := zh (Kd.R_elder' (zR HO425) (Kd.R_base ho0) hb); have n1_ := zh (Kd.R_elder' (zR HO429) (Kd.R_base ho0) hb); have n2_ := zh (Kd.R_lower (Kd.R_new' (Kd.R_new' ho0 (Kd.R_lt (zR HO425))) (Kd.R_lt (zR HO429))) (below_size zb)); have n3_ := zh (blk_below (g := gb422) (o := .cells #[.int .i64 a0_0, .int .i64 a0_1, .int .i64 a0_2, .slice A0_3 l0_3.length c0_3] 24 (0, 0)) (zc BK422) hb); have n4_ := zh (below_step zb hb); clear HO425; clear HO429; clear BK422; clear HB; have HO425 := n0_; have HO429 := n1_; have HO433 := n2_; have BK422 := n3_; have HB := n4_; clear n0_ n1_ n2_ n3_ n4_; (try clear hb); (try clear hb2); (try clear hk); (try clear hi); (try clear ho0); have hcz26_0 : w25.cell? ⟨gb422, 0, none⟩ = some (.int .i64 a0_0) := vb BK422 0; have hcz26_1 : w25.cell? ⟨gb422, 1, none⟩ = some (.int .i64 a0_1) := vb BK422 1; have hcz26_2 : w25.cell? ⟨gb422, 2, none⟩ = some (.int .i64 a0_2) := vb BK422 2; have hcz26_3 : w25.cell? ⟨gb422, 3, none⟩ = some (.slice A0_3 l0_3.length c0_3) := vb BK422 3; have hfz26_0 := blk_frozen BK422.out 0; have hfz26_1 := blk_frozen BK422.out 1; have hfz26_2 := blk_frozen BK422.out 2; have hfz26_3 := blk_frozen BK422.out 3) | ((with_reducible refine gate_callee (f := 17) rfl ?_); refine goesL_ (some 44) rfl rfl Tryd.func17 zk rfl #[.agg #[.int .i64 a0_0, .int .i64 a0_1, .int .i64 a0_2, .slice A0_3 l0_3.length c0_3], .slice A4 l4.length c4, .int .i64 a2] rfl zm ?_; (with_reducible refine (saronref06_Part.calls k a0_0 a0_1 a0_2 _ _ l0_3 _ _ l4 a2 t435 t438 _ ?side1 ?side2 ?side3 ?side4 A9.out).mono ?_); (case side1 => repeat (first | exact (Kd.C_below HR0_3.out HB.out) | (with_reducible refine Kd.C_alloc ?_ _) | (with_reducible refine Kd.C_drewN ?_ _) | (with_reducible refine Kd.C_drew ?_))); (case side2 => exact HC0_3.out); (case side3 => repeat (first | exact (Kd.C_below HR4.out HB.out) | (with_reducible refine Kd.C_alloc ?_ _) | (with_reducible refine Kd.C_drewN ?_ _) | (with_reducible refine Kd.C_drew ?_))); (case side4 => exact HC4.out); rintro e w27 ⟨v436, rfl, ho0, hb⟩; refine ⟨_, rfl, ?_⟩; have n0_ := zh (Kd.R_elder' (zR HO425) (Kd.R_base ho0) hb); have n1_ := zh (Kd.R_elder' (zR HO429) (Kd.R_base ho0) hb); have n2_ := zh (Kd.R_elder' (zR HO433) (Kd.R_base ho0) hb); have n3_ := zh (Kd.R_lower (Kd.R_new' (Kd.R_new' (Kd.R_new' ho0 (Kd.R_lt (zR HO425))) (Kd.R_lt (zR HO429))) (Kd.R_lt (zR HO433))) (below_size zb)); have n4_ := zh (blk_below (g := gb422) (o := .cells #[.int .i64 a0_0, .int .i64 a0_1, .int .i64 a0_2, .slice A0_3 l0_3.length c0_3] 24 (0, 0)) (zc BK422) hb); have n5_ := zh (below_step zb hb); clear HO425; clear HO429; clear HO433; clear BK422; clear HB; have HO425 := n0_; have HO429 := n1_; have HO433 := n2_; have HO437 := n3_; have BK422 := n4_; have HB := n5_; clear n0_ n1_ n2_ n3_ n4_ n5_; (try clear hb); (try clear hb2); (try clear hk); (try clear hi); (try clear ho0); obtain ⟨Ao28, co28, eo28⟩ := Kd.R_slice HO425.out; subst eo28; obtain ⟨Ao29, co29, eo29⟩ := Kd.R_slice HO429.out; subst eo29) | (go_at_call 18; (with_reducible refine (saronref00_Equal.calls k _ _ t423 _ _ t427 true _ ?side1 ?side2 ?side3 ?side4 A14.out).mono ?_); (case side1 => repeat (first | exact (Kd.R_reads' HO425.out).2.2 | (with_reducible refine Kd.C_alloc ?_ _) | (with_reducible refine Kd.C_drewN ?_ _) | (with_reducible refine Kd.C_drew ?_))); (case side2 => exact (Kd.R_reads' HO425.out).2.1); (case side3 => repeat (first | exact (Kd.R_reads' HO429.out).2.2 | (with_reducible refine Kd.C_alloc ?_ _) | (with_reducible refine Kd.C_drewN ?_ _) | (with_reducible refine Kd.C_drew ?_))); (case side4 => exact (Kd.R_reads' HO429.out).2.1); rintro e w' ⟨rfl, ⟨nd, rfl⟩⟩; obtain ⟨Ao30, co30, eo30⟩ := Kd.R_slice HO433.out; subst eo30; obtain ⟨Ao31, co31, eo31⟩ := Kd.R_slice HO437.out; subst eo31) | (go_at_call 18; (with_reducible refine (saronref00_Equal.calls k _ _ t431 _ _ t435 true _ ?side1 ?side2 ?side3 ?side4 A16.out).mono ?_); (case side1 => repeat (first | exact (Kd.R_reads' HO433.out).2.2 | (with_reducible refine Kd.C_alloc ?_ _) | (with_reducible refine Kd.C_drewN ?_ _) | (with_reducible refine Kd.C_drew ?_))); (case side2 => exact (Kd.R_reads' HO433.out).2.1); (case side3 => repeat (first | exact (Kd.R_reads' HO437.out).2.2 | (with_reducible refine Kd.C_alloc ?_ _) | (with_reducible refine Kd.C_drewN ?_ _) | (with_reducible refine Kd.C_drew ?_))); (case side4 => exact (Kd.R_reads' HO437.out).2.1); rintro e w' ⟨rfl, ⟨nd, rfl⟩⟩) | (go_at_call 18; (with_reducible refine (saronref00_Equal.calls k _ _ l3 _ _ l4 t441 _ ?side1 ?side2 ?side3 ?side4 A18.out).mono ?_); (case side1 => repeat (first | exact (Kd.C_below HR3.out zb) | (with_reducible refine Kd.C_alloc ?_ _) | (with_reducible refine Kd.C_drewN ?_ _) | (with_reducible refine Kd.C_drew ?_))); (case side2 => exact HC3.out); (case side3 => repeat (first | exact (Kd.C_below HR4.out zb) | (with_reducible refine Kd.C_alloc ?_ _) | (with_reducible refine Kd.C_drewN ?_ _) | (with_reducible refine Kd.C_drew ?_))); (case side4 => exact HC4.out); rintro e w' ⟨rfl, ⟨nd, rfl⟩⟩))
       go_ret
       exact ⟨zf, zb⟩
      ·replace c17 := Bool.eq_false_iff.mpr c17
       subst c17
       have H1 : (some false) = some r := by rw [if_neg (show ¬ (false = true) by decide)] at H; exact H
       clear H
       have H := H1
       clear H1
       obtain rfl := Option.some.inj H
       go_enter Tryd.func38, Tryd.ntmps38
       go_wp2_with (first | ((with_reducible refine gate_dst (N := 5) rfl ?_); refine box_event ?hg (N := 5) ?hd (cs := #[.int .i64 a0_0, .int .i64 a0_1, .int .i64 a0_2, .slice A0_3 l0_3.length c0_3]) (t := 24) ?hr ?_; (case hd => rfl); (case hg => rfl); (case hr => first | (go_simp; done) | (go_simp; rfl)); intro gb422 hg w32 hbox hb; have n0_ := zh (below_step zb hb); have n1_ := zh (hbox); have n2_ := zh ((by rw [hg]; exact (below_size zb) : w.heap.size ≤ gb422)); have n3_ := zh ((by rw [hg]; exact (below_size zb) : w.heap.size ≤ gb422)); clear HB; have HB := n0_; have BK422 := n1_; have GW422 := n2_; have GE422 := n3_; clear n0_ n1_ n2_ n3_; clear hb hbox hg; have hcz33_0 : w32.cell? ⟨gb422, 0, none⟩ = some (.int .i64 a0_0) := vb BK422 0; have hcz33_1 : w32.cell? ⟨gb422, 1, none⟩ = some (.int .i64 a0_1) := vb BK422 1; have hcz33_2 : w32.cell? ⟨gb422, 2, none⟩ = some (.int .i64 a0_2) := vb BK422 2; have hcz33_3 : w32.cell? ⟨gb422, 3, none⟩ = some (.slice A0_3 l0_3.length c0_3) := vb BK422 3; have hfz33_0 := blk_frozen BK422.out 0; have hfz33_1 := blk_frozen BK422.out 1; have hfz33_2 := blk_frozen BK422.out 2; have hfz33_3 := blk_frozen BK422.out 3) | ((with_reducible refine gate_callee (f := 17) rfl ?_); refine goesL_ (some 23) rfl rfl Tryd.func17 zk rfl #[.agg #[.int .i64 a0_0, .int .i64 a0_1, .int .i64 a0_2, .slice A0_3 l0_3.length c0_3], .slice A3 l3.length c3, .int .i64 a1] rfl zm ?_; (with_reducible refine (saronref06_Part.calls k a0_0 a0_1 a0_2 _ _ l0_3 _ _ l3 a1 t423 t426 _ ?side1 ?side2 ?side3 ?side4 A6.out).mono ?_); (case side1 => repeat (first | exact (Kd.C_below HR0_3.out HB.out) | (with_reducible refine Kd.C_alloc ?_ _) | (with_reducible refine Kd.C_drewN ?_ _) | (with_reducible refine Kd.C_drew ?_))); (case side2 => exact HC0_3.out); (case side3 => repeat (first | exact (Kd.C_below HR3.out HB.out) | (with_reducible refine Kd.C_alloc ?_ _) | (with_reducible refine Kd.C_drewN ?_ _) | (with_reducible refine Kd.C_drew ?_))); (case side4 => exact HC3.out); rintro e w34 ⟨v424, rfl, ho0, hb⟩; refine ⟨_, rfl, ?_⟩; have n0_ := zh (Kd.R_lower ho0 (below_size zb)); have n1_ := zh (blk_below (g := gb422) (o := .cells #[.int .i64 a0_0, .int .i64 a0_1, .int .i64 a0_2, .slice A0_3 l0_3.length c0_3] 24 (0, 0)) (zc BK422) hb); have n2_ := zh (below_step zb hb); clear BK422; clear HB; have HO425 := n0_; have BK422 := n1_; have HB := n2_; clear n0_ n1_ n2_; (try clear hb); (try clear hb2); (try clear hk); (try clear hi); (try clear ho0); have hcz35_0 : w34.cell? ⟨gb422, 0, none⟩ = some (.int .i64 a0_0) := vb BK422 0; have hcz35_1 : w34.cell? ⟨gb422, 1, none⟩ = some (.int .i64 a0_1) := vb BK422 1; have hcz35_2 : w34.cell? ⟨gb422, 2, none⟩ = some (.int .i64 a0_2) := vb BK422 2; have hcz35_3 : w34.cell? ⟨gb422, 3, none⟩ = some (.slice A0_3 l0_3.length c0_3) := vb BK422 3; have hfz35_0 := blk_frozen BK422.out 0; have hfz35_1 := blk_frozen BK422.out 1; have hfz35_2 := blk_frozen BK422.out 2; have hfz35_3 := blk_frozen BK422.out 3) | ((with_reducible refine gate_callee (f := 17) rfl ?_); refine goesL_ (some 30) rfl rfl Tryd.func17 zk rfl #[.agg #[.int .i64 a0_0, .int .i64 a0_1, .int .i64 a0_2, .slice A0_3 l0_3.length c0_3], .slice A4 l4.length c4, .int .i64 a1] rfl zm ?_; (with_reducible refine (saronref06_Part.calls k a0_0 a0_1 a0_2 _ _ l0_3 _ _ l4 a1 t427 t430 _ ?side1 ?side2 ?side3 ?side4 A7.out).mono ?_); (case side1 => repeat (first | exact (Kd.C_below HR0_3.out HB.out) | (with_reducible refine Kd.C_alloc ?_ _) | (with_reducible refine Kd.C_drewN ?_ _) | (with_reducible refine Kd.C_drew ?_))); (case side2 => exact HC0_3.out); (case side3 => repeat (first | exact (Kd.C_below HR4.out HB.out) | (with_reducible refine Kd.C_alloc ?_ _) | (with_reducible refine Kd.C_drewN ?_ _) | (with_reducible refine Kd.C_drew ?_))); (case side4 => exact HC4.out); rintro e w36 ⟨v428, rfl, ho0, hb⟩; refine ⟨_, rfl, ?_⟩; have n0_ := zh (Kd.R_elder' (zR HO425) (Kd.R_base ho0) hb); have n1_ := zh (Kd.R_lower (Kd.R_new' ho0 (Kd.R_lt (zR HO425))) (below_size zb)); have n2_ := zh (blk_below (g := gb422) (o := .cells #[.int .i64 a0_0, .int .i64 a0_1, .int .i64 a0_2, .slice A0_3 l0_3.length c0_3] 24 (0, 0)) (zc BK422) hb); have n3_ := zh (below_step zb hb); clear HO425; clear BK422; clear HB; have HO425 := n0_; have HO429 := n1_; have BK422 := n2_; have HB := n3_; clear n0_ n1_ n2_ n3_; (try clear hb); (try clear hb2); (try clear hk); (try clear hi); (try clear ho0); have hcz37_0 : w36.cell? ⟨gb422, 0, none⟩ = some (.int .i64 a0_0) := vb BK422 0; have hcz37_1 : w36.cell? ⟨gb422, 1, none⟩ = some (.int .i64 a0_1) := vb BK422 1; have hcz37_2 : w36.cell? ⟨gb422, 2, none⟩ = some (.int .i64 a0_2) := vb BK422 2; have hcz37_3 : w36.cell? ⟨gb422, 3, none⟩ = some (.slice A0_3 l0_3.length c0_3) := vb BK422 3; have hfz37_0 := blk_frozen BK422.out 0; have hfz37_1 := blk_frozen BK422.out 1; have hfz37_2 := blk_frozen BK422.out 2; have hfz37_3 := blk_frozen BK422.out 3) | ((with_reducible refine gate_callee (f := 17) rfl ?_); refine goesL_ (some 37) rfl rfl Tryd.func17 zk rfl #[.agg #[.int .i64 a0_0, .int .i64 a0_1, .int .i64 a0_2, .slice A0_3 l0_3.length c0_3], .slice A3 l3.length c3, .int .i64 a2] rfl zm ?_; (with_reducible refine (saronref06_Part.calls k a0_0 a0_1 a0_2 _ _ l0_3 _ _ l3 a2 t431 t434 _ ?side1 ?side2 ?side3 ?side4 A8.out).mono ?_); (case side1 => repeat (first | exact (Kd.C_below HR0_3.out HB.out) | (with_reducible refine Kd.C_alloc ?_ _) | (with_reducible refine Kd.C_drewN ?_ _) | (with_reducible refine Kd.C_drew ?_))); (case side2 => exact HC0_3.out); (case side3 => repeat (first | exact (Kd.C_below HR3.out HB.out) | (with_reducible refine Kd.C_alloc ?_ _) | (with_reducible refine Kd.C_drewN ?_ _) | (with_reducible refine Kd.C_drew ?_))); (case side4 => exact HC3.out); rintro e w38 ⟨v432, rfl, ho0, hb⟩; refine ⟨_, rfl, ?_⟩; have n0_ := zh (Kd.R_elder' (zR HO425) (Kd.R_base ho0) hb); have n1_ := zh (Kd.R_elder' (zR HO429) (Kd.R_base ho0) hb); have n2_ := zh (Kd.R_lower (Kd.R_new' (Kd.R_new' ho0 (Kd.R_lt (zR HO425))) (Kd.R_lt (zR HO429))) (below_size zb)); have n3_ := zh (blk_below (g := gb422) (o := .cells #[.int .i64 a0_0, .int .i64 a0_1, .int .i64 a0_2, .slice A0_3 l0_3.length c0_3] 24 (0, 0)) (zc BK422) hb); have n4_ := zh (below_step zb hb); clear HO425; clear HO429; clear BK422; clear HB; have HO425 := n0_; have HO429 := n1_; have HO433 := n2_; have BK422 := n3_; have HB := n4_; clear n0_ n1_ n2_ n3_ n4_; (try clear hb); (try clear hb2); (try clear hk); (try clear hi); (try clear ho0); have hcz39_0 : w38.cell? ⟨gb422, 0, none⟩ = some (.int .i64 a0_0) := vb BK422 0; have hcz39_1 : w38.cell? ⟨gb422, 1, none⟩ = some (.int .i64 a0_1) := vb BK422 1; have hcz39_2 : w38.cell? ⟨gb422, 2, none⟩ = some (.int .i64 a0_2) := vb BK422 2; have hcz39_3 : w38.cell? ⟨gb422, 3, none⟩ = some (.slice A0_3 l0_3.length c0_3) := vb BK422 3; have hfz39_0 := blk_frozen BK422.out 0; have hfz39_1 := blk_frozen BK422.out 1; have hfz39_2 := blk_frozen BK422.out 2; have hfz39_3 := blk_frozen BK422.out 3) | ((with_reducible refine gate_callee (f := 17) rfl ?_); refine goesL_ (some 44) rfl rfl Tryd.func17 zk rfl #[.agg #[.int .i64 a0_0, .int .i64 a0_1, .int .i64 a0_2, .slice A0_3 l0_3.length c0_3], .slice A4 l4.length c4, .int .i64 a2] rfl zm ?_; (with_reducible refine (saronref06_Part.calls k a0_0 a0_1 a0_2 _ _ l0_3 _ _ l4 a2 t435 t438 _ ?side1 ?side2 ?side3 ?side4 A9.out).mono ?_); (case side1 => repeat (first | exact (Kd.C_below HR0_3.out HB.out) | (with_reducible refine Kd.C_alloc ?_ _) | (with_reducible refine Kd.C_drewN ?_ _) | (with_reducible refine Kd.C_drew ?_))); (case side2 => exact HC0_3.out); (case side3 => repeat (first | exact (Kd.C_below HR4.out HB.out) | (with_reducible refine Kd.C_alloc ?_ _) | (with_reducible refine Kd.C_drewN ?_ _) | (with_reducible refine Kd.C_drew ?_))); (case side4 => exact HC4.out); rintro e w40 ⟨v436, rfl, ho0, hb⟩; refine ⟨_, rfl, ?_⟩; have n0_ := zh (Kd.R_elder' (zR HO425) (Kd.R_base ho0) hb); have n1_ := zh (Kd.R_elder' (zR HO429) (Kd.R_base ho0) hb); have n2_ := zh (Kd.R_elder' (zR HO433) (Kd.R_base ho0) hb); have n3_ := zh (Kd.R_lower (Kd.R_new' (Kd.R_new' (Kd.R_new' ho0 (Kd.R_lt (zR HO425))) (Kd.R_lt (zR HO429))) (Kd.R_lt (zR HO433))) (below_size zb)); have n4_ := zh (blk_below (g := gb422) (o := .cells #[.int .i64 a0_0, .int .i64 a0_1, .int .i64 a0_2, .slice A0_3 l0_3.length c0_3] 24 (0, 0)) (zc BK422) hb); have n5_ := zh (below_step zb hb); clear HO425; clear HO429; clear HO433; clear BK422; clear HB; have HO425 := n0_; have HO429 := n1_; have HO433 := n2_; have HO437 := n3_; have BK422 := n4_; have HB := n5_; clear n0_ n1_ n2_ n3_ n4_ n5_; (try clear hb); (try clear hb2); (try clear hk); (try clear hi); (try clear ho0); obtain ⟨Ao41, co41, eo41⟩ := Kd.R_slice HO425.out; subst eo41; obtain ⟨Ao42, co42, eo42⟩ := Kd.R_slice HO429.out; subst eo42) | (go_at_call 18; (with_reducible refine (saronref00_Equal.calls k _ _ t423 _ _ t427 true _ ?side1 ?side2 ?side3 ?side4 A14.out).mono ?_); (case side1 => repeat (first | exact (Kd.R_reads' HO425.out).2.2 | (with_reducible refine Kd.C_alloc ?_ _) | (with_reducible refine Kd.C_drewN ?_ _) | (with_reducible refine Kd.C_drew ?_))); (case side2 => exact (Kd.R_reads' HO425.out).2.1); (case side3 => repeat (first | exact (Kd.R_reads' HO429.out).2.2 | (with_reducible refine Kd.C_alloc ?_ _) | (with_reducible refine Kd.C_drewN ?_ _) | (with_reducible refine Kd.C_drew ?_))); (case side4 => exact (Kd.R_reads' HO429.out).2.1); rintro e w' ⟨rfl, ⟨nd, rfl⟩⟩; obtain ⟨Ao43, co43, eo43⟩ := Kd.R_slice HO433.out; subst eo43; obtain ⟨Ao44, co44, eo44⟩ := Kd.R_slice HO437.out; subst eo44) | (go_at_call 18; (with_reducible refine (saronref00_Equal.calls k _ _ t431 _ _ t435 false _ ?side1 ?side2 ?side3 ?side4 A16.out).mono ?_); (case side1 => repeat (first | exact (Kd.R_reads' HO433.out).2.2 | (with_reducible refine Kd.C_alloc ?_ _) | (with_reducible refine Kd.C_drewN ?_ _) | (with_reducible refine Kd.C_drew ?_))); (case side2 => exact (Kd.R_reads' HO433.out).2.1); (case side3 => repeat (first | exact (Kd.R_reads' HO437.out).2.2 | (with_reducible refine Kd.C_alloc ?_ _) | (with_reducible refine Kd.C_drewN ?_ _) | (with_reducible refine Kd.C_drew ?_))); (case side4 => exact (Kd.R_reads' HO437.out).2.1); rintro e w' ⟨rfl, ⟨nd, rfl⟩⟩))
       go_ret
       exact ⟨zf, zb⟩
     ·replace c15 := Bool.eq_false_iff.mpr c15
      subst c15
      have H1 : (some false) = some r := by rw [if_neg (show ¬ (false = true) by decide)] at H; exact H
      clear H
      have H := H1
      clear H1
      obtain rfl := Option.some.inj H
      go_enter Tryd.func38, Tryd.ntmps38
      go_wp2_with (first | ((with_reducible refine gate_dst (N := 5) rfl ?_); refine box_event ?hg (N := 5) ?hd (cs := #[.int .i64 a0_0, .int .i64 a0_1, .int .i64 a0_2, .slice A0_3 l0_3.length c0_3]) (t := 24) ?hr ?_; (case hd => rfl); (case hg => rfl); (case hr => first | (go_simp; done) | (go_simp; rfl)); intro gb422 hg w45 hbox hb; have n0_ := zh (below_step zb hb); have n1_ := zh (hbox); have n2_ := zh ((by rw [hg]; exact (below_size zb) : w.heap.size ≤ gb422)); have n3_ := zh ((by rw [hg]; exact (below_size zb) : w.heap.size ≤ gb422)); clear HB; have HB := n0_; have BK422 := n1_; have GW422 := n2_; have GE422 := n3_; clear n0_ n1_ n2_ n3_; clear hb hbox hg; have hcz46_0 : w45.cell? ⟨gb422, 0, none⟩ = some (.int .i64 a0_0) := vb BK422 0; have hcz46_1 : w45.cell? ⟨gb422, 1, none⟩ = some (.int .i64 a0_1) := vb BK422 1; have hcz46_2 : w45.cell? ⟨gb422, 2, none⟩ = some (.int .i64 a0_2) := vb BK422 2; have hcz46_3 : w45.cell? ⟨gb422, 3, none⟩ = some (.slice A0_3 l0_3.length c0_3) := vb BK422 3; have hfz46_0 := blk_frozen BK422.out 0; have hfz46_1 := blk_frozen BK422.out 1; have hfz46_2 := blk_frozen BK422.out 2; have hfz46_3 := blk_frozen BK422.out 3) | ((with_reducible refine gate_callee (f := 17) rfl ?_); refine goesL_ (some 23) rfl rfl Tryd.func17 zk rfl #[.agg #[.int .i64 a0_0, .int .i64 a0_1, .int .i64 a0_2, .slice A0_3 l0_3.length c0_3], .slice A3 l3.length c3, .int .i64 a1] rfl zm ?_; (with_reducible refine (saronref06_Part.calls k a0_0 a0_1 a0_2 _ _ l0_3 _ _ l3 a1 t423 t426 _ ?side1 ?side2 ?side3 ?side4 A6.out).mono ?_); (case side1 => repeat (first | exact (Kd.C_below HR0_3.out HB.out) | (with_reducible refine Kd.C_alloc ?_ _) | (with_reducible refine Kd.C_drewN ?_ _) | (with_reducible refine Kd.C_drew ?_))); (case side2 => exact HC0_3.out); (case side3 => repeat (first | exact (Kd.C_below HR3.out HB.out) | (with_reducible refine Kd.C_alloc ?_ _) | (with_reducible refine Kd.C_drewN ?_ _) | (with_reducible refine Kd.C_drew ?_))); (case side4 => exact HC3.out); rintro e w47 ⟨v424, rfl, ho0, hb⟩; refine ⟨_, rfl, ?_⟩; have n0_ := zh (Kd.R_lower ho0 (below_size zb)); have n1_ := zh (blk_below (g := gb422) (o := .cells #[.int .i64 a0_0, .int .i64 a0_1, .int .i64 a0_2, .slice A0_3 l0_3.length c0_3] 24 (0, 0)) (zc BK422) hb); have n2_ := zh (below_step zb hb); clear BK422; clear HB; have HO425 := n0_; have BK422 := n1_; have HB := n2_; clear n0_ n1_ n2_; (try clear hb); (try clear hb2); (try clear hk); (try clear hi); (try clear ho0); have hcz48_0 : w47.cell? ⟨gb422, 0, none⟩ = some (.int .i64 a0_0) := vb BK422 0; have hcz48_1 : w47.cell? ⟨gb422, 1, none⟩ = some (.int .i64 a0_1) := vb BK422 1; have hcz48_2 : w47.cell? ⟨gb422, 2, none⟩ = some (.int .i64 a0_2) := vb BK422 2; have hcz48_3 : w47.cell? ⟨gb422, 3, none⟩ = some (.slice A0_3 l0_3.length c0_3) := vb BK422 3; have hfz48_0 := blk_frozen BK422.out 0; have hfz48_1 := blk_frozen BK422.out 1; have hfz48_2 := blk_frozen BK422.out 2; have hfz48_3 := blk_frozen BK422.out 3) | ((with_reducible refine gate_callee (f := 17) rfl ?_); refine goesL_ (some 30) rfl rfl Tryd.func17 zk rfl #[.agg #[.int .i64 a0_0, .int .i64 a0_1, .int .i64 a0_2, .slice A0_3 l0_3.length c0_3], .slice A4 l4.length c4, .int .i64 a1] rfl zm ?_; (with_reducible refine (saronref06_Part.calls k a0_0 a0_1 a0_2 _ _ l0_3 _ _ l4 a1 t427 t430 _ ?side1 ?side2 ?side3 ?side4 A7.out).mono ?_); (case side1 => repeat (first | exact (Kd.C_below HR0_3.out HB.out) | (with_reducible refine Kd.C_alloc ?_ _) | (with_reducible refine Kd.C_drewN ?_ _) | (with_reducible refine Kd.C_drew ?_))); (case side2 => exact HC0_3.out); (case side3 => repeat (first | exact (Kd.C_below HR4.out HB.out) | (with_reducible refine Kd.C_alloc ?_ _) | (with_reducible refine Kd.C_drewN ?_ _) | (with_reducible refine Kd.C_drew ?_))); (case side4 => exact HC4.out); rintro e w49 ⟨v428, rfl, ho0, hb⟩; refine ⟨_, rfl, ?_⟩; have n0_ := zh (Kd.R_elder' (zR HO425) (Kd.R_base ho0) hb); have n1_ := zh (Kd.R_lower (Kd.R_new' ho0 (Kd.R_lt (zR HO425))) (below_size zb)); have n2_ := zh (blk_below (g := gb422) (o := .cells #[.int .i64 a0_0, .int .i64 a0_1, .int .i64 a0_2, .slice A0_3 l0_3.length c0_3] 24 (0, 0)) (zc BK422) hb); have n3_ := zh (below_step zb hb); clear HO425; clear BK422; clear HB; have HO425 := n0_; have HO429 := n1_; have BK422 := n2_; have HB := n3_; clear n0_ n1_ n2_ n3_; (try clear hb); (try clear hb2); (try clear hk); (try clear hi); (try clear ho0); have hcz50_0 : w49.cell? ⟨gb422, 0, none⟩ = some (.int .i64 a0_0) := vb BK422 0; have hcz50_1 : w49.cell? ⟨gb422, 1, none⟩ = some (.int .i64 a0_1) := vb BK422 1; have hcz50_2 : w49.cell? ⟨gb422, 2, none⟩ = some (.int .i64 a0_2) := vb BK422 2; have hcz50_3 : w49.cell? ⟨gb422, 3, none⟩ = some (.slice A0_3 l0_3.length c0_3) := vb BK422 3; have hfz50_0 := blk_frozen BK422.out 0; have hfz50_1 := blk_frozen BK422.out 1; have hfz50_2 := blk_frozen BK422.out 2; have hfz50_3 := blk_frozen BK422.out 3) | ((with_reducible refine gate_callee (f := 17) rfl ?_); refine goesL_ (some 37) rfl rfl Tryd.func17 zk rfl #[.agg #[.int .i64 a0_0, .int .i64 a0_1, .int .i64 a0_2, .slice A0_3 l0_3.length c0_3], .slice A3 l3.length c3, .int .i64 a2] rfl zm ?_; (with_reducible refine (saronref06_Part.calls k a0_0 a0_1 a0_2 _ _ l0_3 _ _ l3 a2 t431 t434 _ ?side1 ?side2 ?side3 ?side4 A8.out).mono ?_); (case side1 => repeat (first | exact (Kd.C_below HR0_3.out HB.out) | (with_reducible refine Kd.C_alloc ?_ _) | (with_reducible refine Kd.C_drewN ?_ _) | (with_reducible refine Kd.C_drew ?_))); (case side2 => exact HC0_3.out); (case side3 => repeat (first | exact (Kd.C_below HR3.out HB.out) | (with_reducible refine Kd.C_alloc ?_ _) | (with_reducible refine Kd.C_drewN ?_ _) | (with_reducible refine Kd.C_drew ?_))); (case side4 => exact HC3.out); rintro e w51 ⟨v432, rfl, ho0, hb⟩; refine ⟨_, rfl, ?_⟩; have n0_ := zh (Kd.R_elder' (zR HO425) (Kd.R_base ho0) hb); have n1_ := zh (Kd.R_elder' (zR HO429) (Kd.R_base ho0) hb); have n2_ := zh (Kd.R_lower (Kd.R_new' (Kd.R_new' ho0 (Kd.R_lt (zR HO425))) (Kd.R_lt (zR HO429))) (below_size zb)); have n3_ := zh (blk_below (g := gb422) (o := .cells #[.int .i64 a0_0, .int .i64 a0_1, .int .i64 a0_2, .slice A0_3 l0_3.length c0_3] 24 (0, 0)) (zc BK422) hb); have n4_ := zh (below_step zb hb); clear HO425; clear HO429; clear BK422; clear HB; have HO425 := n0_; have HO429 := n1_; have HO433 := n2_; have BK422 := n3_; have HB := n4_; clear n0_ n1_ n2_ n3_ n4_; (try clear hb); (try clear hb2); (try clear hk); (try clear hi); (try clear ho0); have hcz52_0 : w51.cell? ⟨gb422, 0, none⟩ = some (.int .i64 a0_0) := vb BK422 0; have hcz52_1 : w51.cell? ⟨gb422, 1, none⟩ = some (.int .i64 a0_1) := vb BK422 1; have hcz52_2 : w51.cell? ⟨gb422, 2, none⟩ = some (.int .i64 a0_2) := vb BK422 2; have hcz52_3 : w51.cell? ⟨gb422, 3, none⟩ = some (.slice A0_3 l0_3.length c0_3) := vb BK422 3; have hfz52_0 := blk_frozen BK422.out 0; have hfz52_1 := blk_frozen BK422.out 1; have hfz52_2 := blk_frozen BK422.out 2; have hfz52_3 := blk_frozen BK422.out 3) | ((with_reducible refine gate_callee (f := 17) rfl ?_); refine goesL_ (some 44) rfl rfl Tryd.func17 zk rfl #[.agg #[.int .i64 a0_0, .int .i64 a0_1, .int .i64 a0_2, .slice A0_3 l0_3.length c0_3], .slice A4 l4.length c4, .int .i64 a2] rfl zm ?_; (with_reducible refine (saronref06_Part.calls k a0_0 a0_1 a0_2 _ _ l0_3 _ _ l4 a2 t435 t438 _ ?side1 ?side2 ?side3 ?side4 A9.out).mono ?_); (case side1 => repeat (first | exact (Kd.C_below HR0_3.out HB.out) | (with_reducible refine Kd.C_alloc ?_ _) | (with_reducible refine Kd.C_drewN ?_ _) | (with_reducible refine Kd.C_drew ?_))); (case side2 => exact HC0_3.out); (case side3 => repeat (first | exact (Kd.C_below HR4.out HB.out) | (with_reducible refine Kd.C_alloc ?_ _) | (with_reducible refine Kd.C_drewN ?_ _) | (with_reducible refine Kd.C_drew ?_))); (case side4 => exact HC4.out); rintro e w53 ⟨v436, rfl, ho0, hb⟩; refine ⟨_, rfl, ?_⟩; have n0_ := zh (Kd.R_elder' (zR HO425) (Kd.R_base ho0) hb); have n1_ := zh (Kd.R_elder' (zR HO429) (Kd.R_base ho0) hb); have n2_ := zh (Kd.R_elder' (zR HO433) (Kd.R_base ho0) hb); have n3_ := zh (Kd.R_lower (Kd.R_new' (Kd.R_new' (Kd.R_new' ho0 (Kd.R_lt (zR HO425))) (Kd.R_lt (zR HO429))) (Kd.R_lt (zR HO433))) (below_size zb)); have n4_ := zh (blk_below (g := gb422) (o := .cells #[.int .i64 a0_0, .int .i64 a0_1, .int .i64 a0_2, .slice A0_3 l0_3.length c0_3] 24 (0, 0)) (zc BK422) hb); have n5_ := zh (below_step zb hb); clear HO425; clear HO429; clear HO433; clear BK422; clear HB; have HO425 := n0_; have HO429 := n1_; have HO433 := n2_; have HO437 := n3_; have BK422 := n4_; have HB := n5_; clear n0_ n1_ n2_ n3_ n4_ n5_; (try clear hb); (try clear hb2); (try clear hk); (try clear hi); (try clear ho0); obtain ⟨Ao54, co54, eo54⟩ := Kd.R_slice HO425.out; subst eo54; obtain ⟨Ao55, co55, eo55⟩ := Kd.R_slice HO429.out; subst eo55) | (go_at_call 18; (with_reducible refine (saronref00_Equal.calls k _ _ t423 _ _ t427 false _ ?side1 ?side2 ?side3 ?side4 A14.out).mono ?_); (case side1 => repeat (first | exact (Kd.R_reads' HO425.out).2.2 | (with_reducible refine Kd.C_alloc ?_ _) | (with_reducible refine Kd.C_drewN ?_ _) | (with_reducible refine Kd.C_drew ?_))); (case side2 => exact (Kd.R_reads' HO425.out).2.1); (case side3 => repeat (first | exact (Kd.R_reads' HO429.out).2.2 | (with_reducible refine Kd.C_alloc ?_ _) | (with_reducible refine Kd.C_drewN ?_ _) | (with_reducible refine Kd.C_drew ?_))); (case side4 => exact (Kd.R_reads' HO429.out).2.1); rintro e w' ⟨rfl, ⟨nd, rfl⟩⟩))
      go_ret
      exact ⟨zf, zb⟩
    ·rw [if_neg c13] at H
     have c13b0 : (t438 == 0) = false := beq_eq_false_iff_ne.mpr c13
     have c13b1 : (t438 != 0) = true := bne_iff_ne.mpr c13
     obtain rfl := Option.some.inj H
     go_enter Tryd.func38, Tryd.ntmps38
     go_wp2_with (first | ((with_reducible refine gate_dst (N := 5) rfl ?_); refine box_event ?hg (N := 5) ?hd (cs := #[.int .i64 a0_0, .int .i64 a0_1, .int .i64 a0_2, .slice A0_3 l0_3.length c0_3]) (t := 24) ?hr ?_; (case hd => rfl); (case hg => rfl); (case hr => first | (go_simp; done) | (go_simp; rfl)); intro gb422 hg w56 hbox hb; have n0_ := zh (below_step zb hb); have n1_ := zh (hbox); have n2_ := zh ((by rw [hg]; exact (below_size zb) : w.heap.size ≤ gb422)); have n3_ := zh ((by rw [hg]; exact (below_size zb) : w.heap.size ≤ gb422)); clear HB; have HB := n0_; have BK422 := n1_; have GW422 := n2_; have GE422 := n3_; clear n0_ n1_ n2_ n3_; clear hb hbox hg; have hcz57_0 : w56.cell? ⟨gb422, 0, none⟩ = some (.int .i64 a0_0) := vb BK422 0; have hcz57_1 : w56.cell? ⟨gb422, 1, none⟩ = some (.int .i64 a0_1) := vb BK422 1; have hcz57_2 : w56.cell? ⟨gb422, 2, none⟩ = some (.int .i64 a0_2) := vb BK422 2; have hcz57_3 : w56.cell? ⟨gb422, 3, none⟩ = some (.slice A0_3 l0_3.length c0_3) := vb BK422 3; have hfz57_0 := blk_frozen BK422.out 0; have hfz57_1 := blk_frozen BK422.out 1; have hfz57_2 := blk_frozen BK422.out 2; have hfz57_3 := blk_frozen BK422.out 3) | ((with_reducible refine gate_callee (f := 17) rfl ?_); refine goesL_ (some 23) rfl rfl Tryd.func17 zk rfl #[.agg #[.int .i64 a0_0, .int .i64 a0_1, .int .i64 a0_2, .slice A0_3 l0_3.length c0_3], .slice A3 l3.length c3, .int .i64 a1] rfl zm ?_; (with_reducible refine (saronref06_Part.calls k a0_0 a0_1 a0_2 _ _ l0_3 _ _ l3 a1 t423 t426 _ ?side1 ?side2 ?side3 ?side4 A6.out).mono ?_); (case side1 => repeat (first | exact (Kd.C_below HR0_3.out HB.out) | (with_reducible refine Kd.C_alloc ?_ _) | (with_reducible refine Kd.C_drewN ?_ _) | (with_reducible refine Kd.C_drew ?_))); (case side2 => exact HC0_3.out); (case side3 => repeat (first | exact (Kd.C_below HR3.out HB.out) | (with_reducible refine Kd.C_alloc ?_ _) | (with_reducible refine Kd.C_drewN ?_ _) | (with_reducible refine Kd.C_drew ?_))); (case side4 => exact HC3.out); rintro e w58 ⟨v424, rfl, ho0, hb⟩; refine ⟨_, rfl, ?_⟩; have n0_ := zh (Kd.R_lower ho0 (below_size zb)); have n1_ := zh (blk_below (g := gb422) (o := .cells #[.int .i64 a0_0, .int .i64 a0_1, .int .i64 a0_2, .slice A0_3 l0_3.length c0_3] 24 (0, 0)) (zc BK422) hb); have n2_ := zh (below_step zb hb); clear BK422; clear HB; have HO425 := n0_; have BK422 := n1_; have HB := n2_; clear n0_ n1_ n2_; (try clear hb); (try clear hb2); (try clear hk); (try clear hi); (try clear ho0); have hcz59_0 : w58.cell? ⟨gb422, 0, none⟩ = some (.int .i64 a0_0) := vb BK422 0; have hcz59_1 : w58.cell? ⟨gb422, 1, none⟩ = some (.int .i64 a0_1) := vb BK422 1; have hcz59_2 : w58.cell? ⟨gb422, 2, none⟩ = some (.int .i64 a0_2) := vb BK422 2; have hcz59_3 : w58.cell? ⟨gb422, 3, none⟩ = some (.slice A0_3 l0_3.length c0_3) := vb BK422 3; have hfz59_0 := blk_frozen BK422.out 0; have hfz59_1 := blk_frozen BK422.out 1; have hfz59_2 := blk_frozen BK422.out 2; have hfz59_3 := blk_frozen BK422.out 3) | ((with_reducible refine gate_callee (f := 17) rfl ?_); refine goesL_ (some 30) rfl rfl Tryd.func17 zk rfl #[.agg #[.int .i64 a0_0, .int .i64 a0_1, .int .i64 a0_2, .slice A0_3 l0_3.length c0_3], .slice A4 l4.length c4, .int .i64 a1] rfl zm ?_; (with_reducible refine (saronref06_Part.calls k a0_0 a0_1 a0_2 _ _ l0_3 _ _ l4 a1 t427 t430 _ ?side1 ?side2 ?side3 ?side4 A7.out).mono ?_); (case side1 => repeat (first | exact (Kd.C_below HR0_3.out HB.out) | (with_reducible refine Kd.C_alloc ?_ _) | (with_reducible refine Kd.C_drewN ?_ _) | (with_reducible refine Kd.C_drew ?_))); (case side2 => exact HC0_3.out); (case side3 => repeat (first | exact (Kd.C_below HR4.out HB.out) | (with_reducible refine Kd.C_alloc ?_ _) | (with_reducible refine Kd.C_drewN ?_ _) | (with_reducible refine Kd.C_drew ?_))); (case side4 => exact HC4.out); rintro e w60 ⟨v428, rfl, ho0, hb⟩; refine ⟨_, rfl, ?_⟩; have n0_ := zh (Kd.R_elder' (zR HO425) (Kd.R_base ho0) hb); have n1_ := zh (Kd.R_lower (Kd.R_new' ho0 (Kd.R_lt (zR HO425))) (below_size zb)); have n2_ := zh (blk_below (g := gb422) (o := .cells #[.int .i64 a0_0, .int .i64 a0_1, .int .i64 a0_2, .slice A0_3 l0_3.length c0_3] 24 (0, 0)) (zc BK422) hb); have n3_ := zh (below_step zb hb); clear HO425; clear BK422; clear HB; have HO425 := n0_; have HO429 := n1_; have BK422 := n2_; have HB := n3_; clear n0_ n1_ n2_ n3_; (try clear hb); (try clear hb2); (try clear hk); (try clear hi); (try clear ho0); have hcz61_0 : w60.cell? ⟨gb422, 0, none⟩ = some (.int .i64 a0_0) := vb BK422 0; have hcz61_1 : w60.cell? ⟨gb422, 1, none⟩ = some (.int .i64 a0_1) := vb BK422 1; have hcz61_2 : w60.cell? ⟨gb422, 2, none⟩ = some (.int .i64 a0_2) := vb BK422 2; have hcz61_3 : w60.cell? ⟨gb422, 3, none⟩ = some (.slice A0_3 l0_3.length c0_3) := vb BK422 3; have hfz61_0 := blk_frozen BK422.out 0; have hfz61_1 := blk_frozen BK422.out 1; have hfz61_2 := blk_frozen BK422.out 2; have hfz61_3 := blk_frozen BK422.out 3) | ((with_reducible refine gate_callee (f := 17) rfl ?_); refine goesL_ (some 37) rfl rfl Tryd.func17 zk rfl #[.agg #[.int .i64 a0_0, .int .i64 a0_1, .int .i64 a0_2, .slice A0_3 l0_3.length c0_3], .slice A3 l3.length c3, .int .i64 a2] rfl zm ?_; (with_reducible refine (saronref06_Part.calls k a0_0 a0_1 a0_2 _ _ l0_3 _ _ l3 a2 t431 t434 _ ?side1 ?side2 ?side3 ?side4 A8.out).mono ?_); (case side1 => repeat (first | exact (Kd.C_below HR0_3.out HB.out) | (with_reducible refine Kd.C_alloc ?_ _) | (with_reducible refine Kd.C_drewN ?_ _) | (with_reducible refine Kd.C_drew ?_))); (case side2 => exact HC0_3.out); (case side3 => repeat (first | exact (Kd.C_below HR3.out HB.out) | (with_reducible refine Kd.C_alloc ?_ _) | (with_reducible refine Kd.C_drewN ?_ _) | (with_reducible refine Kd.C_drew ?_))); (case side4 => exact HC3.out); rintro e w62 ⟨v432, rfl, ho0, hb⟩; refine ⟨_, rfl, ?_⟩; have n0_ := zh (Kd.R_elder' (zR HO425) (Kd.R_base ho0) hb); have n1_ := zh (Kd.R_elder' (zR HO429) (Kd.R_base ho0) hb); have n2_ := zh (Kd.R_lower (Kd.R_new' (Kd.R_new' ho0 (Kd.R_lt (zR HO425))) (Kd.R_lt (zR HO429))) (below_size zb)); have n3_ := zh (blk_below (g := gb422) (o := .cells #[.int .i64 a0_0, .int .i64 a0_1, .int .i64 a0_2, .slice A0_3 l0_3.length c0_3] 24 (0, 0)) (zc BK422) hb); have n4_ := zh (below_step zb hb); clear HO425; clear HO429; clear BK422; clear HB; have HO425 := n0_; have HO429 := n1_; have HO433 := n2_; have BK422 := n3_; have HB := n4_; clear n0_ n1_ n2_ n3_ n4_; (try clear hb); (try clear hb2); (try clear hk); (try clear hi); (try clear ho0); have hcz63_0 : w62.cell? ⟨gb422, 0, none⟩ = some (.int .i64 a0_0) := vb BK422 0; have hcz63_1 : w62.cell? ⟨gb422, 1, none⟩ = some (.int .i64 a0_1) := vb BK422 1; have hcz63_2 : w62.cell? ⟨gb422, 2, none⟩ = some (.int .i64 a0_2) := vb BK422 2; have hcz63_3 : w62.cell? ⟨gb422, 3, none⟩ = some (.slice A0_3 l0_3.length c0_3) := vb BK422 3; have hfz63_0 := blk_frozen BK422.out 0; have hfz63_1 := blk_frozen BK422.out 1; have hfz63_2 := blk_frozen BK422.out 2; have hfz63_3 := blk_frozen BK422.out 3) | ((with_reducible refine gate_callee (f := 17) rfl ?_); refine goesL_ (some 44) rfl rfl Tryd.func17 zk rfl #[.agg #[.int .i64 a0_0, .int .i64 a0_1, .int .i64 a0_2, .slice A0_3 l0_3.length c0_3], .slice A4 l4.length c4, .int .i64 a2] rfl zm ?_; (with_reducible refine (saronref06_Part.calls k a0_0 a0_1 a0_2 _ _ l0_3 _ _ l4 a2 t435 t438 _ ?side1 ?side2 ?side3 ?side4 A9.out).mono ?_); (case side1 => repeat (first | exact (Kd.C_below HR0_3.out HB.out) | (with_reducible refine Kd.C_alloc ?_ _) | (with_reducible refine Kd.C_drewN ?_ _) | (with_reducible refine Kd.C_drew ?_))); (case side2 => exact HC0_3.out); (case side3 => repeat (first | exact (Kd.C_below HR4.out HB.out) | (with_reducible refine Kd.C_alloc ?_ _) | (with_reducible refine Kd.C_drewN ?_ _) | (with_reducible refine Kd.C_drew ?_))); (case side4 => exact HC4.out); rintro e w64 ⟨v436, rfl, ho0, hb⟩; refine ⟨_, rfl, ?_⟩; have n0_ := zh (Kd.R_elder' (zR HO425) (Kd.R_base ho0) hb); have n1_ := zh (Kd.R_elder' (zR HO429) (Kd.R_base ho0) hb); have n2_ := zh (Kd.R_elder' (zR HO433) (Kd.R_base ho0) hb); have n3_ := zh (Kd.R_lower (Kd.R_new' (Kd.R_new' (Kd.R_new' ho0 (Kd.R_lt (zR HO425))) (Kd.R_lt (zR HO429))) (Kd.R_lt (zR HO433))) (below_size zb)); have n4_ := zh (blk_below (g := gb422) (o := .cells #[.int .i64 a0_0, .int .i64 a0_1, .int .i64 a0_2, .slice A0_3 l0_3.length c0_3] 24 (0, 0)) (zc BK422) hb); have n5_ := zh (below_step zb hb); clear HO425; clear HO429; clear HO433; clear BK422; clear HB; have HO425 := n0_; have HO429 := n1_; have HO433 := n2_; have HO437 := n3_; have BK422 := n4_; have HB := n5_; clear n0_ n1_ n2_ n3_ n4_ n5_; (try clear hb); (try clear hb2); (try clear hk); (try clear hi); (try clear ho0)))
     go_ret
     exact ⟨zf, zb⟩
   ·rw [if_neg c12] at H
    have c12b0 : (t434 == 0) = false := beq_eq_false_iff_ne.mpr c12
    have c12b1 : (t434 != 0) = true := bne_iff_ne.mpr c12
    obtain rfl := Option.some.inj H
    go_enter Tryd.func38, Tryd.ntmps38
    go_wp2_with (first | ((with_reducible refine gate_dst (N := 5) rfl ?_); refine box_event ?hg (N := 5) ?hd (cs := #[.int .i64 a0_0, .int .i64 a0_1, .int .i64 a0_2, .slice A0_3 l0_3.length c0_3]) (t := 24) ?hr ?_; (case hd => rfl); (case hg => rfl); (case hr => first | (go_simp; done) | (go_simp; rfl)); intro gb422 hg w65 hbox hb; have n0_ := zh (below_step zb hb); have n1_ := zh (hbox); have n2_ := zh ((by rw [hg]; exact (below_size zb) : w.heap.size ≤ gb422)); have n3_ := zh ((by rw [hg]; exact (below_size zb) : w.heap.size ≤ gb422)); clear HB; have HB := n0_; have BK422 := n1_; have GW422 := n2_; have GE422 := n3_; clear n0_ n1_ n2_ n3_; clear hb hbox hg; have hcz66_0 : w65.cell? ⟨gb422, 0, none⟩ = some (.int .i64 a0_0) := vb BK422 0; have hcz66_1 : w65.cell? ⟨gb422, 1, none⟩ = some (.int .i64 a0_1) := vb BK422 1; have hcz66_2 : w65.cell? ⟨gb422, 2, none⟩ = some (.int .i64 a0_2) := vb BK422 2; have hcz66_3 : w65.cell? ⟨gb422, 3, none⟩ = some (.slice A0_3 l0_3.length c0_3) := vb BK422 3; have hfz66_0 := blk_frozen BK422.out 0; have hfz66_1 := blk_frozen BK422.out 1; have hfz66_2 := blk_frozen BK422.out 2; have hfz66_3 := blk_frozen BK422.out 3) | ((with_reducible refine gate_callee (f := 17) rfl ?_); refine goesL_ (some 23) rfl rfl Tryd.func17 zk rfl #[.agg #[.int .i64 a0_0, .int .i64 a0_1, .int .i64 a0_2, .slice A0_3 l0_3.length c0_3], .slice A3 l3.length c3, .int .i64 a1] rfl zm ?_; (with_reducible refine (saronref06_Part.calls k a0_0 a0_1 a0_2 _ _ l0_3 _ _ l3 a1 t423 t426 _ ?side1 ?side2 ?side3 ?side4 A6.out).mono ?_); (case side1 => repeat (first | exact (Kd.C_below HR0_3.out HB.out) | (with_reducible refine Kd.C_alloc ?_ _) | (with_reducible refine Kd.C_drewN ?_ _) | (with_reducible refine Kd.C_drew ?_))); (case side2 => exact HC0_3.out); (case side3 => repeat (first | exact (Kd.C_below HR3.out HB.out) | (with_reducible refine Kd.C_alloc ?_ _) | (with_reducible refine Kd.C_drewN ?_ _) | (with_reducible refine Kd.C_drew ?_))); (case side4 => exact HC3.out); rintro e w67 ⟨v424, rfl, ho0, hb⟩; refine ⟨_, rfl, ?_⟩; have n0_ := zh (Kd.R_lower ho0 (below_size zb)); have n1_ := zh (blk_below (g := gb422) (o := .cells #[.int .i64 a0_0, .int .i64 a0_1, .int .i64 a0_2, .slice A0_3 l0_3.length c0_3] 24 (0, 0)) (zc BK422) hb); have n2_ := zh (below_step zb hb); clear BK422; clear HB; have HO425 := n0_; have BK422 := n1_; have HB := n2_; clear n0_ n1_ n2_; (try clear hb); (try clear hb2); (try clear hk); (try clear hi); (try clear ho0); have hcz68_0 : w67.cell? ⟨gb422, 0, none⟩ = some (.int .i64 a0_0) := vb BK422 0; have hcz68_1 : w67.cell? ⟨gb422, 1, none⟩ = some (.int .i64 a0_1) := vb BK422 1; have hcz68_2 : w67.cell? ⟨gb422, 2, none⟩ = some (.int .i64 a0_2) := vb BK422 2; have hcz68_3 : w67.cell? ⟨gb422, 3, none⟩ = some (.slice A0_3 l0_3.length c0_3) := vb BK422 3; have hfz68_0 := blk_frozen BK422.out 0; have hfz68_1 := blk_frozen BK422.out 1; have hfz68_2 := blk_frozen BK422.out 2; have hfz68_3 := blk_frozen BK422.out 3) | ((with_reducible refine gate_callee (f := 17) rfl ?_); refine goesL_ (some 30) rfl rfl Tryd.func17 zk rfl #[.agg #[.int .i64 a0_0, .int .i64 a0_1, .int .i64 a0_2, .slice A0_3 l0_3.length c0_3], .slice A4 l4.length c4, .int .i64 a1] rfl zm ?_; (with_reducible refine (saronref06_Part.calls k a0_0 a0_1 a0_2 _ _ l0_3 _ _ l4 a1 t427 t430 _ ?side1 ?side2 ?side3 ?side4 A7.out).mono ?_); (case side1 => repeat (first | exact (Kd.C_below HR0_3.out HB.out) | (with_reducible refine Kd.C_alloc ?_ _) | (with_reducible refine Kd.C_drewN ?_ _) | (with_reducible refine Kd.C_drew ?_))); (case side2 => exact HC0_3.out); (case side3 => repeat (first | exact (Kd.C_below HR4.out HB.out) | (with_reducible refine Kd.C_alloc ?_ _) | (with_reducible refine Kd.C_drewN ?_ _) | (with_reducible refine Kd.C_drew ?_))); (case side4 => exact HC4.out); rintro e w69 ⟨v428, rfl, ho0, hb⟩; refine ⟨_, rfl, ?_⟩; have n0_ := zh (Kd.R_elder' (zR HO425) (Kd.R_base ho0) hb); have n1_ := zh (Kd.R_lower (Kd.R_new' ho0 (Kd.R_lt (zR HO425))) (below_size zb)); have n2_ := zh (blk_below (g := gb422) (o := .cells #[.int .i64 a0_0, .int .i64 a0_1, .int .i64 a0_2, .slice A0_3 l0_3.length c0_3] 24 (0, 0)) (zc BK422) hb); have n3_ := zh (below_step zb hb); clear HO425; clear BK422; clear HB; have HO425 := n0_; have HO429 := n1_; have BK422 := n2_; have HB := n3_; clear n0_ n1_ n2_ n3_; (try clear hb); (try clear hb2); (try clear hk); (try clear hi); (try clear ho0); have hcz70_0 : w69.cell? ⟨gb422, 0, none⟩ = some (.int .i64 a0_0) := vb BK422 0; have hcz70_1 : w69.cell? ⟨gb422, 1, none⟩ = some (.int .i64 a0_1) := vb BK422 1; have hcz70_2 : w69.cell? ⟨gb422, 2, none⟩ = some (.int .i64 a0_2) := vb BK422 2; have hcz70_3 : w69.cell? ⟨gb422, 3, none⟩ = some (.slice A0_3 l0_3.length c0_3) := vb BK422 3; have hfz70_0 := blk_frozen BK422.out 0; have hfz70_1 := blk_frozen BK422.out 1; have hfz70_2 := blk_frozen BK422.out 2; have hfz70_3 := blk_frozen BK422.out 3) | ((with_reducible refine gate_callee (f := 17) rfl ?_); refine goesL_ (some 37) rfl rfl Tryd.func17 zk rfl #[.agg #[.int .i64 a0_0, .int .i64 a0_1, .int .i64 a0_2, .slice A0_3 l0_3.length c0_3], .slice A3 l3.length c3, .int .i64 a2] rfl zm ?_; (with_reducible refine (saronref06_Part.calls k a0_0 a0_1 a0_2 _ _ l0_3 _ _ l3 a2 t431 t434 _ ?side1 ?side2 ?side3 ?side4 A8.out).mono ?_); (case side1 => repeat (first | exact (Kd.C_below HR0_3.out HB.out) | (with_reducible refine Kd.C_alloc ?_ _) | (with_reducible refine Kd.C_drewN ?_ _) | (with_reducible refine Kd.C_drew ?_))); (case side2 => exact HC0_3.out); (case side3 => repeat (first | exact (Kd.C_below HR3.out HB.out) | (with_reducible refine Kd.C_alloc ?_ _) | (with_reducible refine Kd.C_drewN ?_ _) | (with_reducible refine Kd.C_drew ?_))); (case side4 => exact HC3.out); rintro e w71 ⟨v432, rfl, ho0, hb⟩; refine ⟨_, rfl, ?_⟩; have n0_ := zh (Kd.R_elder' (zR HO425) (Kd.R_base ho0) hb); have n1_ := zh (Kd.R_elder' (zR HO429) (Kd.R_base ho0) hb); have n2_ := zh (Kd.R_lower (Kd.R_new' (Kd.R_new' ho0 (Kd.R_lt (zR HO425))) (Kd.R_lt (zR HO429))) (below_size zb)); have n3_ := zh (blk_below (g := gb422) (o := .cells #[.int .i64 a0_0, .int .i64 a0_1, .int .i64 a0_2, .slice A0_3 l0_3.length c0_3] 24 (0, 0)) (zc BK422) hb); have n4_ := zh (below_step zb hb); clear HO425; clear HO429; clear BK422; clear HB; have HO425 := n0_; have HO429 := n1_; have HO433 := n2_; have BK422 := n3_; have HB := n4_; clear n0_ n1_ n2_ n3_ n4_; (try clear hb); (try clear hb2); (try clear hk); (try clear hi); (try clear ho0); have hcz72_0 : w71.cell? ⟨gb422, 0, none⟩ = some (.int .i64 a0_0) := vb BK422 0; have hcz72_1 : w71.cell? ⟨gb422, 1, none⟩ = some (.int .i64 a0_1) := vb BK422 1; have hcz72_2 : w71.cell? ⟨gb422, 2, none⟩ = some (.int .i64 a0_2) := vb BK422 2; have hcz72_3 : w71.cell? ⟨gb422, 3, none⟩ = some (.slice A0_3 l0_3.length c0_3) := vb BK422 3; have hfz72_0 := blk_frozen BK422.out 0; have hfz72_1 := blk_frozen BK422.out 1; have hfz72_2 := blk_frozen BK422.out 2; have hfz72_3 := blk_frozen BK422.out 3) | ((with_reducible refine gate_callee (f := 17) rfl ?_); refine goesL_ (some 44) rfl rfl Tryd.func17 zk rfl #[.agg #[.int .i64 a0_0, .int .i64 a0_1, .int .i64 a0_2, .slice A0_3 l0_3.length c0_3], .slice A4 l4.length c4, .int .i64 a2] rfl zm ?_; (with_reducible refine (saronref06_Part.calls k a0_0 a0_1 a0_2 _ _ l0_3 _ _ l4 a2 t435 t438 _ ?side1 ?side2 ?side3 ?side4 A9.out).mono ?_); (case side1 => repeat (first | exact (Kd.C_below HR0_3.out HB.out) | (with_reducible refine Kd.C_alloc ?_ _) | (with_reducible refine Kd.C_drewN ?_ _) | (with_reducible refine Kd.C_drew ?_))); (case side2 => exact HC0_3.out); (case side3 => repeat (first | exact (Kd.C_below HR4.out HB.out) | (with_reducible refine Kd.C_alloc ?_ _) | (with_reducible refine Kd.C_drewN ?_ _) | (with_reducible refine Kd.C_drew ?_))); (case side4 => exact HC4.out); rintro e w73 ⟨v436, rfl, ho0, hb⟩; refine ⟨_, rfl, ?_⟩; have n0_ := zh (Kd.R_elder' (zR HO425) (Kd.R_base ho0) hb); have n1_ := zh (Kd.R_elder' (zR HO429) (Kd.R_base ho0) hb); have n2_ := zh (Kd.R_elder' (zR HO433) (Kd.R_base ho0) hb); have n3_ := zh (Kd.R_lower (Kd.R_new' (Kd.R_new' (Kd.R_new' ho0 (Kd.R_lt (zR HO425))) (Kd.R_lt (zR HO429))) (Kd.R_lt (zR HO433))) (below_size zb)); have n4_ := zh (blk_below (g := gb422) (o := .cells #[.int .i64 a0_0, .int .i64 a0_1, .int .i64 a0_2, .slice A0_3 l0_3.length c0_3] 24 (0, 0)) (zc BK422) hb); have n5_ := zh (below_step zb hb); clear HO425; clear HO429; clear HO433; clear BK422; clear HB; have HO425 := n0_; have HO429 := n1_; have HO433 := n2_; have HO437 := n3_; have BK422 := n4_; have HB := n5_; clear n0_ n1_ n2_ n3_ n4_ n5_; (try clear hb); (try clear hb2); (try clear hk); (try clear hi); (try clear ho0)))
    go_ret
    exact ⟨zf, zb⟩
  ·rw [if_neg c11] at H
   have c11b0 : (t430 == 0) = false := beq_eq_false_iff_ne.mpr c11
   have c11b1 : (t430 != 0) = true := bne_iff_ne.mpr c11
   obtain rfl := Option.some.inj H
   go_enter Tryd.func38, Tryd.ntmps38
   go_wp2_with (first | ((with_reducible refine gate_dst (N := 5) rfl ?_); refine box_event ?hg (N := 5) ?hd (cs := #[.int .i64 a0_0, .int .i64 a0_1, .int .i64 a0_2, .slice A0_3 l0_3.length c0_3]) (t := 24) ?hr ?_; (case hd => rfl); (case hg => rfl); (case hr => first | (go_simp; done) | (go_simp; rfl)); intro gb422 hg w74 hbox hb; have n0_ := zh (below_step zb hb); have n1_ := zh (hbox); have n2_ := zh ((by rw [hg]; exact (below_size zb) : w.heap.size ≤ gb422)); have n3_ := zh ((by rw [hg]; exact (below_size zb) : w.heap.size ≤ gb422)); clear HB; have HB := n0_; have BK422 := n1_; have GW422 := n2_; have GE422 := n3_; clear n0_ n1_ n2_ n3_; clear hb hbox hg; have hcz75_0 : w74.cell? ⟨gb422, 0, none⟩ = some (.int .i64 a0_0) := vb BK422 0; have hcz75_1 : w74.cell? ⟨gb422, 1, none⟩ = some (.int .i64 a0_1) := vb BK422 1; have hcz75_2 : w74.cell? ⟨gb422, 2, none⟩ = some (.int .i64 a0_2) := vb BK422 2; have hcz75_3 : w74.cell? ⟨gb422, 3, none⟩ = some (.slice A0_3 l0_3.length c0_3) := vb BK422 3; have hfz75_0 := blk_frozen BK422.out 0; have hfz75_1 := blk_frozen BK422.out 1; have hfz75_2 := blk_frozen BK422.out 2; have hfz75_3 := blk_frozen BK422.out 3) | ((with_reducible refine gate_callee (f := 17) rfl ?_); refine goesL_ (some 23) rfl rfl Tryd.func17 zk rfl #[.agg #[.int .i64 a0_0, .int .i64 a0_1, .int .i64 a0_2, .slice A0_3 l0_3.length c0_3], .slice A3 l3.length c3, .int .i64 a1] rfl zm ?_; (with_reducible refine (saronref06_Part.calls k a0_0 a0_1 a0_2 _ _ l0_3 _ _ l3 a1 t423 t426 _ ?side1 ?side2 ?side3 ?side4 A6.out).mono ?_); (case side1 => repeat (first | exact (Kd.C_below HR0_3.out HB.out) | (with_reducible refine Kd.C_alloc ?_ _) | (with_reducible refine Kd.C_drewN ?_ _) | (with_reducible refine Kd.C_drew ?_))); (case side2 => exact HC0_3.out); (case side3 => repeat (first | exact (Kd.C_below HR3.out HB.out) | (with_reducible refine Kd.C_alloc ?_ _) | (with_reducible refine Kd.C_drewN ?_ _) | (with_reducible refine Kd.C_drew ?_))); (case side4 => exact HC3.out); rintro e w76 ⟨v424, rfl, ho0, hb⟩; refine ⟨_, rfl, ?_⟩; have n0_ := zh (Kd.R_lower ho0 (below_size zb)); have n1_ := zh (blk_below (g := gb422) (o := .cells #[.int .i64 a0_0, .int .i64 a0_1, .int .i64 a0_2, .slice A0_3 l0_3.length c0_3] 24 (0, 0)) (zc BK422) hb); have n2_ := zh (below_step zb hb); clear BK422; clear HB; have HO425 := n0_; have BK422 := n1_; have HB := n2_; clear n0_ n1_ n2_; (try clear hb); (try clear hb2); (try clear hk); (try clear hi); (try clear ho0); have hcz77_0 : w76.cell? ⟨gb422, 0, none⟩ = some (.int .i64 a0_0) := vb BK422 0; have hcz77_1 : w76.cell? ⟨gb422, 1, none⟩ = some (.int .i64 a0_1) := vb BK422 1; have hcz77_2 : w76.cell? ⟨gb422, 2, none⟩ = some (.int .i64 a0_2) := vb BK422 2; have hcz77_3 : w76.cell? ⟨gb422, 3, none⟩ = some (.slice A0_3 l0_3.length c0_3) := vb BK422 3; have hfz77_0 := blk_frozen BK422.out 0; have hfz77_1 := blk_frozen BK422.out 1; have hfz77_2 := blk_frozen BK422.out 2; have hfz77_3 := blk_frozen BK422.out 3) | ((with_reducible refine gate_callee (f := 17) rfl ?_); refine goesL_ (some 30) rfl rfl Tryd.func17 zk rfl #[.agg #[.int .i64 a0_0, .int .i64 a0_1, .int .i64 a0_2, .slice A0_3 l0_3.length c0_3], .slice A4 l4.length c4, .int .i64 a1] rfl zm ?_; (with_reducible refine (saronref06_Part.calls k a0_0 a0_1 a0_2 _ _ l0_3 _ _ l4 a1 t427 t430 _ ?side1 ?side2 ?side3 ?side4 A7.out).mono ?_); (case side1 => repeat (first | exact (Kd.C_below HR0_3.out HB.out) | (with_reducible refine Kd.C_alloc ?_ _) | (with_reducible refine Kd.C_drewN ?_ _) | (with_reducible refine Kd.C_drew ?_))); (case side2 => exact HC0_3.out); (case side3 => repeat (first | exact (Kd.C_below HR4.out HB.out) | (with_reducible refine Kd.C_alloc ?_ _) | (with_reducible refine Kd.C_drewN ?_ _) | (with_reducible refine Kd.C_drew ?_))); (case side4 => exact HC4.out); rintro e w78 ⟨v428, rfl, ho0, hb⟩; refine ⟨_, rfl, ?_⟩; have n0_ := zh (Kd.R_elder' (zR HO425) (Kd.R_base ho0) hb); have n1_ := zh (Kd.R_lower (Kd.R_new' ho0 (Kd.R_lt (zR HO425))) (below_size zb)); have n2_ := zh (blk_below (g := gb422) (o := .cells #[.int .i64 a0_0, .int .i64 a0_1, .int .i64 a0_2, .slice A0_3 l0_3.length c0_3] 24 (0, 0)) (zc BK422) hb); have n3_ := zh (below_step zb hb); clear HO425; clear BK422; clear HB; have HO425 := n0_; have HO429 := n1_; have BK422 := n2_; have HB := n3_; clear n0_ n1_ n2_ n3_; (try clear hb); (try clear hb2); (try clear hk); (try clear hi); (try clear ho0); have hcz79_0 : w78.cell? ⟨gb422, 0, none⟩ = some (.int .i64 a0_0) := vb BK422 0; have hcz79_1 : w78.cell? ⟨gb422, 1, none⟩ = some (.int .i64 a0_1) := vb BK422 1; have hcz79_2 : w78.cell? ⟨gb422, 2, none⟩ = some (.int .i64 a0_2) := vb BK422 2; have hcz79_3 : w78.cell? ⟨gb422, 3, none⟩ = some (.slice A0_3 l0_3.length c0_3) := vb BK422 3; have hfz79_0 := blk_frozen BK422.out 0; have hfz79_1 := blk_frozen BK422.out 1; have hfz79_2 := blk_frozen BK422.out 2; have hfz79_3 := blk_frozen BK422.out 3) | ((with_reducible refine gate_callee (f := 17) rfl ?_); refine goesL_ (some 37) rfl rfl Tryd.func17 zk rfl #[.agg #[.int .i64 a0_0, .int .i64 a0_1, .int .i64 a0_2, .slice A0_3 l0_3.length c0_3], .slice A3 l3.length c3, .int .i64 a2] rfl zm ?_; (with_reducible refine (saronref06_Part.calls k a0_0 a0_1 a0_2 _ _ l0_3 _ _ l3 a2 t431 t434 _ ?side1 ?side2 ?side3 ?side4 A8.out).mono ?_); (case side1 => repeat (first | exact (Kd.C_below HR0_3.out HB.out) | (with_reducible refine Kd.C_alloc ?_ _) | (with_reducible refine Kd.C_drewN ?_ _) | (with_reducible refine Kd.C_drew ?_))); (case side2 => exact HC0_3.out); (case side3 => repeat (first | exact (Kd.C_below HR3.out HB.out) | (with_reducible refine Kd.C_alloc ?_ _) | (with_reducible refine Kd.C_drewN ?_ _) | (with_reducible refine Kd.C_drew ?_))); (case side4 => exact HC3.out); rintro e w80 ⟨v432, rfl, ho0, hb⟩; refine ⟨_, rfl, ?_⟩; have n0_ := zh (Kd.R_elder' (zR HO425) (Kd.R_base ho0) hb); have n1_ := zh (Kd.R_elder' (zR HO429) (Kd.R_base ho0) hb); have n2_ := zh (Kd.R_lower (Kd.R_new' (Kd.R_new' ho0 (Kd.R_lt (zR HO425))) (Kd.R_lt (zR HO429))) (below_size zb)); have n3_ := zh (blk_below (g := gb422) (o := .cells #[.int .i64 a0_0, .int .i64 a0_1, .int .i64 a0_2, .slice A0_3 l0_3.length c0_3] 24 (0, 0)) (zc BK422) hb); have n4_ := zh (below_step zb hb); clear HO425; clear HO429; clear BK422; clear HB; have HO425 := n0_; have HO429 := n1_; have HO433 := n2_; have BK422 := n3_; have HB := n4_; clear n0_ n1_ n2_ n3_ n4_; (try clear hb); (try clear hb2); (try clear hk); (try clear hi); (try clear ho0); have hcz81_0 : w80.cell? ⟨gb422, 0, none⟩ = some (.int .i64 a0_0) := vb BK422 0; have hcz81_1 : w80.cell? ⟨gb422, 1, none⟩ = some (.int .i64 a0_1) := vb BK422 1; have hcz81_2 : w80.cell? ⟨gb422, 2, none⟩ = some (.int .i64 a0_2) := vb BK422 2; have hcz81_3 : w80.cell? ⟨gb422, 3, none⟩ = some (.slice A0_3 l0_3.length c0_3) := vb BK422 3; have hfz81_0 := blk_frozen BK422.out 0; have hfz81_1 := blk_frozen BK422.out 1; have hfz81_2 := blk_frozen BK422.out 2; have hfz81_3 := blk_frozen BK422.out 3) | ((with_reducible refine gate_callee (f := 17) rfl ?_); refine goesL_ (some 44) rfl rfl Tryd.func17 zk rfl #[.agg #[.int .i64 a0_0, .int .i64 a0_1, .int .i64 a0_2, .slice A0_3 l0_3.length c0_3], .slice A4 l4.length c4, .int .i64 a2] rfl zm ?_; (with_reducible refine (saronref06_Part.calls k a0_0 a0_1 a0_2 _ _ l0_3 _ _ l4 a2 t435 t438 _ ?side1 ?side2 ?side3 ?side4 A9.out).mono ?_); (case side1 => repeat (first | exact (Kd.C_below HR0_3.out HB.out) | (with_reducible refine Kd.C_alloc ?_ _) | (with_reducible refine Kd.C_drewN ?_ _) | (with_reducible refine Kd.C_drew ?_))); (case side2 => exact HC0_3.out); (case side3 => repeat (first | exact (Kd.C_below HR4.out HB.out) | (with_reducible refine Kd.C_alloc ?_ _) | (with_reducible refine Kd.C_drewN ?_ _) | (with_reducible refine Kd.C_drew ?_))); (case side4 => exact HC4.out); rintro e w82 ⟨v436, rfl, ho0, hb⟩; refine ⟨_, rfl, ?_⟩; have n0_ := zh (Kd.R_elder' (zR HO425) (Kd.R_base ho0) hb); have n1_ := zh (Kd.R_elder' (zR HO429) (Kd.R_base ho0) hb); have n2_ := zh (Kd.R_elder' (zR HO433) (Kd.R_base ho0) hb); have n3_ := zh (Kd.R_lower (Kd.R_new' (Kd.R_new' (Kd.R_new' ho0 (Kd.R_lt (zR HO425))) (Kd.R_lt (zR HO429))) (Kd.R_lt (zR HO433))) (below_size zb)); have n4_ := zh (blk_below (g := gb422) (o := .cells #[.int .i64 a0_0, .int .i64 a0_1, .int .i64 a0_2, .slice A0_3 l0_3.length c0_3] 24 (0, 0)) (zc BK422) hb); have n5_ := zh (below_step zb hb); clear HO425; clear HO429; clear HO433; clear BK422; clear HB; have HO425 := n0_; have HO429 := n1_; have HO433 := n2_; have HO437 := n3_; have BK422 := n4_; have HB := n5_; clear n0_ n1_ n2_ n3_ n4_ n5_; (try clear hb); (try clear hb2); (try clear hk); (try clear hi); (try clear ho0)))
   go_ret
   exact ⟨zf, zb⟩
 ·rw [if_neg c10] at H
  have c10b0 : (t426 == 0) = false := beq_eq_false_iff_ne.mpr c10
  have c10b1 : (t426 != 0) = true := bne_iff_ne.mpr c10
  obtain rfl := Option.some.inj H
  go_enter Tryd.func38, Tryd.ntmps38
  go_wp2_with (first | ((with_reducible refine gate_dst (N := 5) rfl ?_); refine box_event ?hg (N := 5) ?hd (cs := #[.int .i64 a0_0, .int .i64 a0_1, .int .i64 a0_2, .slice A0_3 l0_3.length c0_3]) (t := 24) ?hr ?_; (case hd => rfl); (case hg => rfl); (case hr => first | (go_simp; done) | (go_simp; rfl)); intro gb422 hg w83 hbox hb; have n0_ := zh (below_step zb hb); have n1_ := zh (hbox); have n2_ := zh ((by rw [hg]; exact (below_size zb) : w.heap.size ≤ gb422)); have n3_ := zh ((by rw [hg]; exact (below_size zb) : w.heap.size ≤ gb422)); clear HB; have HB := n0_; have BK422 := n1_; have GW422 := n2_; have GE422 := n3_; clear n0_ n1_ n2_ n3_; clear hb hbox hg; have hcz84_0 : w83.cell? ⟨gb422, 0, none⟩ = some (.int .i64 a0_0) := vb BK422 0; have hcz84_1 : w83.cell? ⟨gb422, 1, none⟩ = some (.int .i64 a0_1) := vb BK422 1; have hcz84_2 : w83.cell? ⟨gb422, 2, none⟩ = some (.int .i64 a0_2) := vb BK422 2; have hcz84_3 : w83.cell? ⟨gb422, 3, none⟩ = some (.slice A0_3 l0_3.length c0_3) := vb BK422 3; have hfz84_0 := blk_frozen BK422.out 0; have hfz84_1 := blk_frozen BK422.out 1; have hfz84_2 := blk_frozen BK422.out 2; have hfz84_3 := blk_frozen BK422.out 3) | ((with_reducible refine gate_callee (f := 17) rfl ?_); refine goesL_ (some 23) rfl rfl Tryd.func17 zk rfl #[.agg #[.int .i64 a0_0, .int .i64 a0_1, .int .i64 a0_2, .slice A0_3 l0_3.length c0_3], .slice A3 l3.length c3, .int .i64 a1] rfl zm ?_; (with_reducible refine (saronref06_Part.calls k a0_0 a0_1 a0_2 _ _ l0_3 _ _ l3 a1 t423 t426 _ ?side1 ?side2 ?side3 ?side4 A6.out).mono ?_); (case side1 => repeat (first | exact (Kd.C_below HR0_3.out HB.out) | (with_reducible refine Kd.C_alloc ?_ _) | (with_reducible refine Kd.C_drewN ?_ _) | (with_reducible refine Kd.C_drew ?_))); (case side2 => exact HC0_3.out); (case side3 => repeat (first | exact (Kd.C_below HR3.out HB.out) | (with_reducible refine Kd.C_alloc ?_ _) | (with_reducible refine Kd.C_drewN ?_ _) | (with_reducible refine Kd.C_drew ?_))); (case side4 => exact HC3.out); rintro e w85 ⟨v424, rfl, ho0, hb⟩; refine ⟨_, rfl, ?_⟩; have n0_ := zh (Kd.R_lower ho0 (below_size zb)); have n1_ := zh (blk_below (g := gb422) (o := .cells #[.int .i64 a0_0, .int .i64 a0_1, .int .i64 a0_2, .slice A0_3 l0_3.length c0_3] 24 (0, 0)) (zc BK422) hb); have n2_ := zh (below_step zb hb); clear BK422; clear HB; have HO425 := n0_; have BK422 := n1_; have HB := n2_; clear n0_ n1_ n2_; (try clear hb); (try clear hb2); (try clear hk); (try clear hi); (try clear ho0); have hcz86_0 : w85.cell? ⟨gb422, 0, none⟩ = some (.int .i64 a0_0) := vb BK422 0; have hcz86_1 : w85.cell? ⟨gb422, 1, none⟩ = some (.int .i64 a0_1) := vb BK422 1; have hcz86_2 : w85.cell? ⟨gb422, 2, none⟩ = some (.int .i64 a0_2) := vb BK422 2; have hcz86_3 : w85.cell? ⟨gb422, 3, none⟩ = some (.slice A0_3 l0_3.length c0_3) := vb BK422 3; have hfz86_0 := blk_frozen BK422.out 0; have hfz86_1 := blk_frozen BK422.out 1; have hfz86_2 := blk_frozen BK422.out 2; have hfz86_3 := blk_frozen BK422.out 3) | ((with_reducible refine gate_callee (f := 17) rfl ?_); refine goesL_ (some 30) rfl rfl Tryd.func17 zk rfl #[.agg #[.int .i64 a0_0, .int .i64 a0_1, .int .i64 a0_2, .slice A0_3 l0_3.length c0_3], .slice A4 l4.length c4, .int .i64 a1] rfl zm ?_; (with_reducible refine (saronref06_Part.calls k a0_0 a0_1 a0_2 _ _ l0_3 _ _ l4 a1 t427 t430 _ ?side1 ?side2 ?side3 ?side4 A7.out).mono ?_); (case side1 => repeat (first | exact (Kd.C_below HR0_3.out HB.out) | (with_reducible refine Kd.C_alloc ?_ _) | (with_reducible refine Kd.C_drewN ?_ _) | (with_reducible refine Kd.C_drew ?_))); (case side2 => exact HC0_3.out); (case side3 => repeat (first | exact (Kd.C_below HR4.out HB.out) | (with_reducible refine Kd.C_alloc ?_ _) | (with_reducible refine Kd.C_drewN ?_ _) | (with_reducible refine Kd.C_drew ?_))); (case side4 => exact HC4.out); rintro e w87 ⟨v428, rfl, ho0, hb⟩; refine ⟨_, rfl, ?_⟩; have n0_ := zh (Kd.R_elder' (zR HO425) (Kd.R_base ho0) hb); have n1_ := zh (Kd.R_lower (Kd.R_new' ho0 (Kd.R_lt (zR HO425))) (below_size zb)); have n2_ := zh (blk_below (g := gb422) (o := .cells #[.int .i64 a0_0, .int .i64 a0_1, .int .i64 a0_2, .slice A0_3 l0_3.length c0_3] 24 (0, 0)) (zc BK422) hb); have n3_ := zh (below_step zb hb); clear HO425; clear BK422; clear HB; have HO425 := n0_; have HO429 := n1_; have BK422 := n2_; have HB := n3_; clear n0_ n1_ n2_ n3_; (try clear hb); (try clear hb2); (try clear hk); (try clear hi); (try clear ho0); have hcz88_0 : w87.cell? ⟨gb422, 0, none⟩ = some (.int .i64 a0_0) := vb BK422 0; have hcz88_1 : w87.cell? ⟨gb422, 1, none⟩ = some (.int .i64 a0_1) := vb BK422 1; have hcz88_2 : w87.cell? ⟨gb422, 2, none⟩ = some (.int .i64 a0_2) := vb BK422 2; have hcz88_3 : w87.cell? ⟨gb422, 3, none⟩ = some (.slice A0_3 l0_3.length c0_3) := vb BK422 3; have hfz88_0 := blk_frozen BK422.out 0; have hfz88_1 := blk_frozen BK422.out 1; have hfz88_2 := blk_frozen BK422.out 2; have hfz88_3 := blk_frozen BK422.out 3) | ((with_reducible refine gate_callee (f := 17) rfl ?_); refine goesL_ (some 37) rfl rfl Tryd.func17 zk rfl #[.agg #[.int .i64 a0_0, .int .i64 a0_1, .int .i64 a0_2, .slice A0_3 l0_3.length c0_3], .slice A3 l3.length c3, .int .i64 a2] rfl zm ?_; (with_reducible refine (saronref06_Part.calls k a0_0 a0_1 a0_2 _ _ l0_3 _ _ l3 a2 t431 t434 _ ?side1 ?side2 ?side3 ?side4 A8.out).mono ?_); (case side1 => repeat (first | exact (Kd.C_below HR0_3.out HB.out) | (with_reducible refine Kd.C_alloc ?_ _) | (with_reducible refine Kd.C_drewN ?_ _) | (with_reducible refine Kd.C_drew ?_))); (case side2 => exact HC0_3.out); (case side3 => repeat (first | exact (Kd.C_below HR3.out HB.out) | (with_reducible refine Kd.C_alloc ?_ _) | (with_reducible refine Kd.C_drewN ?_ _) | (with_reducible refine Kd.C_drew ?_))); (case side4 => exact HC3.out); rintro e w89 ⟨v432, rfl, ho0, hb⟩; refine ⟨_, rfl, ?_⟩; have n0_ := zh (Kd.R_elder' (zR HO425) (Kd.R_base ho0) hb); have n1_ := zh (Kd.R_elder' (zR HO429) (Kd.R_base ho0) hb); have n2_ := zh (Kd.R_lower (Kd.R_new' (Kd.R_new' ho0 (Kd.R_lt (zR HO425))) (Kd.R_lt (zR HO429))) (below_size zb)); have n3_ := zh (blk_below (g := gb422) (o := .cells #[.int .i64 a0_0, .int .i64 a0_1, .int .i64 a0_2, .slice A0_3 l0_3.length c0_3] 24 (0, 0)) (zc BK422) hb); have n4_ := zh (below_step zb hb); clear HO425; clear HO429; clear BK422; clear HB; have HO425 := n0_; have HO429 := n1_; have HO433 := n2_; have BK422 := n3_; have HB := n4_; clear n0_ n1_ n2_ n3_ n4_; (try clear hb); (try clear hb2); (try clear hk); (try clear hi); (try clear ho0); have hcz90_0 : w89.cell? ⟨gb422, 0, none⟩ = some (.int .i64 a0_0) := vb BK422 0; have hcz90_1 : w89.cell? ⟨gb422, 1, none⟩ = some (.int .i64 a0_1) := vb BK422 1; have hcz90_2 : w89.cell? ⟨gb422, 2, none⟩ = some (.int .i64 a0_2) := vb BK422 2; have hcz90_3 : w89.cell? ⟨gb422, 3, none⟩ = some (.slice A0_3 l0_3.length c0_3) := vb BK422 3; have hfz90_0 := blk_frozen BK422.out 0; have hfz90_1 := blk_frozen BK422.out 1; have hfz90_2 := blk_frozen BK422.out 2; have hfz90_3 := blk_frozen BK422.out 3) | ((with_reducible refine gate_callee (f := 17) rfl ?_); refine goesL_ (some 44) rfl rfl Tryd.func17 zk rfl #[.agg #[.int .i64 a0_0, .int .i64 a0_1, .int .i64 a0_2, .slice A0_3 l0_3.length c0_3], .slice A4 l4.length c4, .int .i64 a2] rfl zm ?_; (with_reducible refine (saronref06_Part.calls k a0_0 a0_1 a0_2 _ _ l0_3 _ _ l4 a2 t435 t438 _ ?side1 ?side2 ?side3 ?side4 A9.out).mono ?_); (case side1 => repeat (first | exact (Kd.C_below HR0_3.out HB.out) | (with_reducible refine Kd.C_alloc ?_ _) | (with_reducible refine Kd.C_drewN ?_ _) | (with_reducible refine Kd.C_drew ?_))); (case side2 => exact HC0_3.out); (case side3 => repeat (first | exact (Kd.C_below HR4.out HB.out) | (with_reducible refine Kd.C_alloc ?_ _) | (with_reducible refine Kd.C_drewN ?_ _) | (with_reducible refine Kd.C_drew ?_))); (case side4 => exact HC4.out); rintro e w91 ⟨v436, rfl, ho0, hb⟩; refine ⟨_, rfl, ?_⟩; have n0_ := zh (Kd.R_elder' (zR HO425) (Kd.R_base ho0) hb); have n1_ := zh (Kd.R_elder' (zR HO429) (Kd.R_base ho0) hb); have n2_ := zh (Kd.R_elder' (zR HO433) (Kd.R_base ho0) hb); have n3_ := zh (Kd.R_lower (Kd.R_new' (Kd.R_new' (Kd.R_new' ho0 (Kd.R_lt (zR HO425))) (Kd.R_lt (zR HO429))) (Kd.R_lt (zR HO433))) (below_size zb)); have n4_ := zh (blk_below (g := gb422) (o := .cells #[.int .i64 a0_0, .int .i64 a0_1, .int .i64 a0_2, .slice A0_3 l0_3.length c0_3] 24 (0, 0)) (zc BK422) hb); have n5_ := zh (below_step zb hb); clear HO425; clear HO429; clear HO433; clear BK422; clear HB; have HO425 := n0_; have HO429 := n1_; have HO433 := n2_; have HO437 := n3_; have BK422 := n4_; have HB := n5_; clear n0_ n1_ n2_ n3_ n4_ n5_; (try clear hb); (try clear hb2); (try clear hk); (try clear hi); (try clear ho0)))
  go_ret
  exact ⟨zf, zb⟩
end Go.Proofs.YtagkfkdoibnhfaaDoor.H
end
section
namespace Go.Proofs.YtagkfkdoibnhfaaDoor.H
open Go.RowKit Go.Proofs.YtagkfkdoibnhfaaDoorW.PrintWords Go.Proofs.YtagkfkdoibnhfaaDoorW.PrintLast Go.Proofs.YtagkfkdoibnhfaaDoorW.PrintMore
attribute [local go_sem] max2_int min2_int max_two min_two max_three min_three max_four min_four   -- for this text's walks alone
set_option linter.unusedVariables false
set_option linter.unusedSimpArgs false
open Go.Proofs.YtagkfkdoibnhfaaDoor.K
def saronlaw06_KernelPairs.j0 : Nat → Int → Int → Bool → Int → Int → Int → List (S66) → Option (Bool)
 | 0, _, _, _, _, _, _, _ => none
 | k + 1, x1, x2, x31, x443000, x443001, x443002, x443003 => if x31 = true then (some false) else ((kernel_Twins.f x443000 x443001 x443002 x443003 x1 x2).bind fun bt452 => ((saronref06_Twins.f k x443000 x443001 x443002 x443003 x1 x2).bind fun t459 => (if bt452.2.2 = t459 then (if t459 = 0 then ((saronref06_AreTwins.f k x443000 x443001 x443002 x443003 x1 x2 bt452.1 bt452.2.1).bind fun t460 => (if t460 = true then ((saronlaw06_works.f).bind fun t461 => (some t461)) else (some false))) else (if (wrap64 ((bt452.1.length : Int) + (bt452.2.1.length : Int))) = 0 then ((saronlaw06_works.f).bind fun t462 => (some t462)) else (some false))) else (some false))))
def saronlaw06_KernelPairs.f (k : Nat) (a0_0 : Int) (a0_1 : Int) (a0_2 : Int) (l0_3 : List (S66)) (a1 : Int) (a2 : Int) : Option (Bool) := (kernel_Pairs.f a0_0 a0_1 a0_2 l0_3).bind fun bt443 => ((saronref06_Pairs.f k a0_0 a0_1 a0_2 l0_3).bind fun bt447 => ((saronref06_SamePairs.f k bt443.1 bt447.1).bind fun t451 => (if t451 = true then (saronlaw06_KernelPairs.j0 k a1 a2 (bt443.2 != bt447.2) a0_0 a0_1 a0_2 l0_3) else (saronlaw06_KernelPairs.j0 k a1 a2 true a0_0 a0_1 a0_2 l0_3))))
set_option maxHeartbeats 8000000 in
set_option maxRecDepth 100000 in
theorem saronlaw06_KernelPairs.calls (k : Nat) (a0_0 : Int) (a0_1 : Int) (a0_2 : Int) (A0_3 : Option Addr) (c0_3 : Nat) (l0_3 : List (S66)) (a1 : Int) (a2 : Int) (r : Bool) (w : World) (hr0_3 : Kd.C k66 w A0_3 l0_3.length l0_3) (hc0_3 : l0_3.length ≤ c0_3) (hG : Glob w) (h : saronlaw06_KernelPairs.f k a0_0 a0_1 a0_2 l0_3 a1 a2 = some r) :
  Calls Tryd.prog 6 #[.agg #[.int .i64 a0_0, .int .i64 a0_1, .int .i64 a0_2, .slice A0_3 l0_3.length c0_3], .int .i64 a1, .int .i64 a2] w fun e w' => e = .returned (.bool r) ∧ Below w.heap.size w w' := by
 have hu24 := Tryd.underlying24
 have HG := zh hG
 clear hG
 have HR0_3 := zh hr0_3
 have HC0_3 := zh hc0_3
 clear hr0_3 hc0_3
 have HB := zh (Below.refl w.heap.size w)
 have H : ((kernel_Pairs.f a0_0 a0_1 a0_2 l0_3).bind fun bt443 => ((saronref06_Pairs.f k a0_0 a0_1 a0_2 l0_3).bind fun bt447 => ((saronref06_SamePairs.f k bt443.1 bt447.1).bind fun t451 => (if t451 = true then (saronlaw06_KernelPairs.j0 k a1 a2 (bt443.2 != bt447.2) a0_0 a0_1 a0_2 l0_3) else (saronlaw06_KernelPairs.j0 k a1 a2 true a0_0 a0_1 a0_2 l0_3))))) = some r := h
 clear h
 replace H := Option.bind_eq_some_iff.mp H
 obtain ⟨⟨t443, t446⟩, A40, H⟩ := H
 replace H : ((saronref06_Pairs.f k a0_0 a0_1 a0_2 l0_3).bind fun bt447 => ((saronref06_SamePairs.f k t443 bt447.1).bind fun t451 => (if t451 = true then (saronlaw06_KernelPairs.j0 k a1 a2 (t446 != bt447.2) a0_0 a0_1 a0_2 l0_3) else (saronlaw06_KernelPairs.j0 k a1 a2 true a0_0 a0_1 a0_2 l0_3)))) = some r := H
 have A4 := zh A40
 clear A40
 replace H := Option.bind_eq_some_iff.mp H
 obtain ⟨⟨t447, t450⟩, A50, H⟩ := H
 replace H : ((saronref06_SamePairs.f k t443 t447).bind fun t451 => (if t451 = true then (saronlaw06_KernelPairs.j0 k a1 a2 (t446 != t450) a0_0 a0_1 a0_2 l0_3) else (saronlaw06_KernelPairs.j0 k a1 a2 true a0_0 a0_1 a0_2 l0_3))) = some r := H
 have A5 := zh A50
 clear A50
 have HC6 := zh H
 clear H
 go_enter Tryd.func6, Tryd.ntmps6
 go_upto_region 3 with (first | ((with_reducible refine gate_dst (N := 3) rfl ?_); refine box_event ?hg (N := 3) ?hd (cs := #[.int .i64 a0_0, .int .i64 a0_1, .int .i64 a0_2, .slice A0_3 l0_3.length c0_3]) (t := 24) ?hr ?_; (case hd => rfl); (case hg => rfl); (case hr => first | (go_simp; done) | (go_simp; rfl)); intro gb442 hg w7 hbox hb; have n0_ := zh (below_step zb hb); have n1_ := zh (hbox); have n2_ := zh ((by rw [hg]; exact (below_size zb) : w.heap.size ≤ gb442)); have n3_ := zh ((by rw [hg]; exact (below_size zb) : w.heap.size ≤ gb442)); clear HB; have HB := n0_; have BK442 := n1_; have GW442 := n2_; have GE442 := n3_; clear n0_ n1_ n2_ n3_; clear hb hbox hg; have hcz8_0 : w7.cell? ⟨gb442, 0, none⟩ = some (.int .i64 a0_0) := vb BK442 0; have hcz8_1 : w7.cell? ⟨gb442, 1, none⟩ = some (.int .i64 a0_1) := vb BK442 1; have hcz8_2 : w7.cell? ⟨gb442, 2, none⟩ = some (.int .i64 a0_2) := vb BK442 2; have hcz8_3 : w7.cell? ⟨gb442, 3, none⟩ = some (.slice A0_3 l0_3.length c0_3) := vb BK442 3; have hfz8_0 := blk_frozen BK442.out 0; have hfz8_1 := blk_frozen BK442.out 1; have hfz8_2 := blk_frozen BK442.out 2; have hfz8_3 := blk_frozen BK442.out 3) | ((with_reducible refine gate_callee (f := 33) rfl ?_); refine goesL_ (some 15) rfl rfl Tryd.func33 zk rfl #[.agg #[.int .i64 a0_0, .int .i64 a0_1, .int .i64 a0_2, .slice A0_3 l0_3.length c0_3]] rfl zm ?_; (with_reducible refine (kernel_Pairs.calls a0_0 a0_1 a0_2 _ _ l0_3 t443 t446 _ ?side1 ?side2 ?side3 A4.out).mono ?_); (case side1 => repeat (first | exact (Kd.C_below HR0_3.out HB.out) | (with_reducible refine Kd.C_alloc ?_ _) | (with_reducible refine Kd.C_drewN ?_ _) | (with_reducible refine Kd.C_drew ?_))); (case side2 => exact HC0_3.out); (case side3 => exact Glob.below HG.out zb); rintro e w9 ⟨v444, rfl, ho0, hb⟩; refine ⟨_, rfl, ?_⟩; have n0_ := zh (Kd.V_lower (Kd.V_mono (ok' := fun k_ => k_ ≠ gb442) ho0 (fun k_ hk_ => (Kd.freshB (g := gb442) (o := .cells #[.int .i64 a0_0, .int .i64 a0_1, .int .i64 a0_2, .slice A0_3 l0_3.length c0_3] 24 (0, 0)) (zc BK442) k_ hk_))) (below_size zb)); have n1_ := zh (blk_below (g := gb442) (o := .cells #[.int .i64 a0_0, .int .i64 a0_1, .int .i64 a0_2, .slice A0_3 l0_3.length c0_3] 24 (0, 0)) (zc BK442) hb); have n2_ := zh (below_step zb hb); clear BK442; clear HB; have HO445 := n0_; have BK442 := n1_; have HB := n2_; clear n0_ n1_ n2_; (try clear hb); (try clear hb2); (try clear hk); (try clear hi); (try clear ho0); have hcz10_0 : w9.cell? ⟨gb442, 0, none⟩ = some (.int .i64 a0_0) := vb BK442 0; have hcz10_1 : w9.cell? ⟨gb442, 1, none⟩ = some (.int .i64 a0_1) := vb BK442 1; have hcz10_2 : w9.cell? ⟨gb442, 2, none⟩ = some (.int .i64 a0_2) := vb BK442 2; have hcz10_3 : w9.cell? ⟨gb442, 3, none⟩ = some (.slice A0_3 l0_3.length c0_3) := vb BK442 3; have hfz10_0 := blk_frozen BK442.out 0; have hfz10_1 := blk_frozen BK442.out 1; have hfz10_2 := blk_frozen BK442.out 2; have hfz10_3 := blk_frozen BK442.out 3) | ((with_reducible refine gate_callee (f := 34) rfl ?_); refine goesL_ (some 20) rfl rfl Tryd.func34 zk rfl #[.agg #[.int .i64 a0_0, .int .i64 a0_1, .int .i64 a0_2, .slice A0_3 l0_3.length c0_3]] rfl zm ?_; (with_reducible refine (saronref06_Pairs.calls k a0_0 a0_1 a0_2 _ _ l0_3 t447 t450 _ ?side1 ?side2 A5.out).mono ?_); (case side1 => repeat (first | exact (Kd.C_below HR0_3.out HB.out) | (with_reducible refine Kd.C_alloc ?_ _) | (with_reducible refine Kd.C_drewN ?_ _) | (with_reducible refine Kd.C_drew ?_))); (case side2 => exact HC0_3.out); rintro e w11 ⟨v448, rfl, ho0, hb⟩; refine ⟨_, rfl, ?_⟩; have n0_ := zh (Kd.V_elder' (zV HO445) (Kd.R_base ho0) hb); have n1_ := zh (Kd.R_lower ho0 (below_size zb)); have n2_ := zh (blk_below (g := gb442) (o := .cells #[.int .i64 a0_0, .int .i64 a0_1, .int .i64 a0_2, .slice A0_3 l0_3.length c0_3] 24 (0, 0)) (zc BK442) hb); have n3_ := zh (below_step zb hb); clear HO445; clear BK442; clear HB; have HO445 := n0_; have HO449 := n1_; have BK442 := n2_; have HB := n3_; clear n0_ n1_ n2_ n3_; (try clear hb); (try clear hb2); (try clear hk); (try clear hi); (try clear ho0)))
 (try simp only [Act.put, List.setIfInBounds_toArray, List.set_cons_zero, List.set_cons_succ])
 go_cut [31] (fun v31 wc => ∃ (kq : Nat) (x31_5 : Bool), v31 = .bool x31_5 ∧ Aside0 (saronlaw06_KernelPairs.j0 kq a1 a2 x31_5 a0_0 a0_1 a0_2 l0_3 = some r) ∧ Aside0 (kq ≤ k) ∧ Aside0 (wc.heap[gb442]? = some (.cells #[.int .i64 a0_0, .int .i64 a0_1, .int .i64 a0_2, (.slice A0_3 l0_3.length c0_3)] 24 (0, 0))) ∧ Aside0 (Below w.heap.size w wc))
 case first =>
  have H := HC6.out
  clear HC6
  replace H := Option.bind_eq_some_iff.mp H
  obtain ⟨t451, A120, H⟩ := H
  replace H : (if t451 = true then (saronlaw06_KernelPairs.j0 k a1 a2 (t446 != t450) a0_0 a0_1 a0_2 l0_3) else (saronlaw06_KernelPairs.j0 k a1 a2 true a0_0 a0_1 a0_2 l0_3)) = some r := H
  have A12 := zh A120
  clear A120
  by_cases c13 : t451 = true
  ·subst c13
   have H1 : (saronlaw06_KernelPairs.j0 k a1 a2 (t446 != t450) a0_0 a0_1 a0_2 l0_3) = some r := by rw [if_pos rfl] at H; exact H
   clear H
   have H := H1
   clear H1
   have H' := zh H
   clear H
   obtain ⟨Ao14, co14, eo14⟩ := Kd.V_slice HO445.out
   subst eo14
   obtain ⟨Ao15, co15, eo15⟩ := Kd.R_slice HO449.out
   subst eo15
   go_wp2_with (first | ((with_reducible refine gate_callee (f := 35) rfl ?_); refine goesL_ (some 25) rfl rfl Tryd.func35 zk rfl #[.slice Ao14 t443.length co14, .slice Ao15 t447.length co15] rfl zm ?_; (with_reducible refine (saronref06_SamePairs.calls k _ _ t443 _ _ t447 true _ ?side1 ?side2 ?side3 ?side4 A12.out).mono ?_); (case side1 => repeat (first | exact (Kd.V_reads' HO445.out).2.2 | (with_reducible refine Kd.C_alloc ?_ _) | (with_reducible refine Kd.C_drewN ?_ _) | (with_reducible refine Kd.C_drew ?_))); (case side2 => exact (Kd.V_reads' HO445.out).2.1); (case side3 => repeat (first | exact (Kd.R_reads' HO449.out).2.2 | (with_reducible refine Kd.C_alloc ?_ _) | (with_reducible refine Kd.C_drewN ?_ _) | (with_reducible refine Kd.C_drew ?_))); (case side4 => exact (Kd.R_reads' HO449.out).2.1); rintro e w' ⟨rfl, ⟨nd, rfl⟩⟩; refine ⟨_, rfl, ?_⟩))
   go_meet
   case rel => exact ⟨_, ((t446 != t450)), ze, H', ⟨zo1⟩, ⟨zc BK442⟩, ⟨zb⟩⟩
  ·replace c13 := Bool.eq_false_iff.mpr c13
   subst c13
   have H1 : (saronlaw06_KernelPairs.j0 k a1 a2 true a0_0 a0_1 a0_2 l0_3) = some r := by rw [if_neg (show ¬ (false = true) by decide)] at H; exact H
   clear H
   have H := H1
   clear H1
   have H' := zh H
   clear H
   obtain ⟨Ao16, co16, eo16⟩ := Kd.V_slice HO445.out
   subst eo16
   obtain ⟨Ao17, co17, eo17⟩ := Kd.R_slice HO449.out
   subst eo17
   go_wp2_with (first | ((with_reducible refine gate_callee (f := 35) rfl ?_); refine goesL_ (some 25) rfl rfl Tryd.func35 zk rfl #[.slice Ao16 t443.length co16, .slice Ao17 t447.length co17] rfl zm ?_; (with_reducible refine (saronref06_SamePairs.calls k _ _ t443 _ _ t447 false _ ?side1 ?side2 ?side3 ?side4 A12.out).mono ?_); (case side1 => repeat (first | exact (Kd.V_reads' HO445.out).2.2 | (with_reducible refine Kd.C_alloc ?_ _) | (with_reducible refine Kd.C_drewN ?_ _) | (with_reducible refine Kd.C_drew ?_))); (case side2 => exact (Kd.V_reads' HO445.out).2.1); (case side3 => repeat (first | exact (Kd.R_reads' HO449.out).2.2 | (with_reducible refine Kd.C_alloc ?_ _) | (with_reducible refine Kd.C_drewN ?_ _) | (with_reducible refine Kd.C_drew ?_))); (case side4 => exact (Kd.R_reads' HO449.out).2.1); rintro e w' ⟨rfl, ⟨nd, rfl⟩⟩; refine ⟨_, rfl, ?_⟩))
   go_meet
   case rel => exact ⟨_, (true), ze, H', ⟨zo1⟩, ⟨zc BK442⟩, ⟨zb⟩⟩
 case rest =>
  clear HC6
  try clear c1
  try clear p2
  try clear c3
  try clear c6
  try clear c13
  try clear hcz10_0
  try clear hcz10_1
  try clear hcz10_2
  try clear hcz10_3
  try clear hcz8_0
  try clear hcz8_1
  try clear hcz8_2
  try clear hcz8_3
  try clear hfz10_0
  try clear hfz10_1
  try clear hfz10_2
  try clear hfz10_3
  try clear hfz8_0
  try clear hfz8_1
  try clear hfz8_2
  try clear hfz8_3
  obtain ⟨kq, x31_5, rfl, HA, HJ5, BK442, HB⟩ := hcut
  cases kq with
  | zero => exact absurd HA.out (by simp [saronlaw06_KernelPairs.j0])
  | succ kj5 =>
   have H := HA.out
   clear HA
   simp only [saronlaw06_KernelPairs.j0] at H
   by_cases c18 : x31_5 = true
   ·subst c18
    have H1 : (some false) = some r := by rw [if_pos rfl] at H; exact H
    clear H
    have H := H1
    clear H1
    obtain rfl := Option.some.inj H
    go_wp2
    go_ret
    exact ⟨zf, zb⟩
   ·replace c18 := Bool.eq_false_iff.mpr c18
    subst c18
    have H1 : ((kernel_Twins.f a0_0 a0_1 a0_2 l0_3 a1 a2).bind fun bt452 => ((saronref06_Twins.f kj5 a0_0 a0_1 a0_2 l0_3 a1 a2).bind fun t459 => (if bt452.2.2 = t459 then (if t459 = 0 then ((saronref06_AreTwins.f kj5 a0_0 a0_1 a0_2 l0_3 a1 a2 bt452.1 bt452.2.1).bind fun t460 => (if t460 = true then ((saronlaw06_works.f).bind fun t461 => (some t461)) else (some false))) else (if (wrap64 ((bt452.1.length : Int) + (bt452.2.1.length : Int))) = 0 then ((saronlaw06_works.f).bind fun t462 => (some t462)) else (some false))) else (some false)))) = some r := by rw [if_neg (show ¬ (false = true) by decide)] at H; exact H
    clear H
    have H := H1
    clear H1
    replace H := Option.bind_eq_some_iff.mp H
    obtain ⟨⟨t452, t455, t458⟩, A190, H⟩ := H
    replace H : ((saronref06_Twins.f kj5 a0_0 a0_1 a0_2 l0_3 a1 a2).bind fun t459 => (if t458 = t459 then (if t459 = 0 then ((saronref06_AreTwins.f kj5 a0_0 a0_1 a0_2 l0_3 a1 a2 t452 t455).bind fun t460 => (if t460 = true then ((saronlaw06_works.f).bind fun t461 => (some t461)) else (some false))) else (if (wrap64 ((t452.length : Int) + (t455.length : Int))) = 0 then ((saronlaw06_works.f).bind fun t462 => (some t462)) else (some false))) else (some false))) = some r := H
    have A19 := zh A190
    clear A190
    replace H := Option.bind_eq_some_iff.mp H
    obtain ⟨t459, A200, H⟩ := H
    replace H : (if t458 = t459 then (if t459 = 0 then ((saronref06_AreTwins.f kj5 a0_0 a0_1 a0_2 l0_3 a1 a2 t452 t455).bind fun t460 => (if t460 = true then ((saronlaw06_works.f).bind fun t461 => (some t461)) else (some false))) else (if (wrap64 ((t452.length : Int) + (t455.length : Int))) = 0 then ((saronlaw06_works.f).bind fun t462 => (some t462)) else (some false))) else (some false)) = some r := H
    have A20 := zh A200
    clear A200
    by_cases c21 : t458 = t459
    ·rw [if_pos c21] at H
     have c21b0 : (t458 == t459) = true := beq_iff_eq.mpr c21
     have c21b1 : (t458 != t459) = false := bne_eq_false_iff_eq.mpr c21
     clear c21
     by_cases c22 : t459 = 0
     ·rw [if_pos c22] at H
      have c22b0 : (t459 == 0) = true := beq_iff_eq.mpr c22
      have c22b1 : (t459 != 0) = false := bne_eq_false_iff_eq.mpr c22
      clear c22
      replace H := Option.bind_eq_some_iff.mp H
      obtain ⟨t460, A230, H⟩ := H
      replace H : (if t460 = true then ((saronlaw06_works.f).bind fun t461 => (some t461)) else (some false)) = some r := H
      have A23 := zh A230
      clear A230
      by_cases c24 : t460 = true
      ·subst c24
       have H1 : ((saronlaw06_works.f).bind fun t461 => (some t461)) = some r := by rw [if_pos rfl] at H; exact H
       clear H
       have H := H1
       clear H1
       replace H := Option.bind_eq_some_iff.mp H
       obtain ⟨t461, A250, H⟩ := H
       replace H : (some t461) = some r := H
       have A25 := zh A250
       clear A250
       obtain rfl := Option.some.inj H
       have hcz26_0 : wc.cell? ⟨gb442, 0, none⟩ = some (.int .i64 a0_0) := vb BK442 0
       have hcz26_1 : wc.cell? ⟨gb442, 1, none⟩ = some (.int .i64 a0_1) := vb BK442 1
       have hcz26_2 : wc.cell? ⟨gb442, 2, none⟩ = some (.int .i64 a0_2) := vb BK442 2
       have hcz26_3 : wc.cell? ⟨gb442, 3, none⟩ = some (.slice A0_3 l0_3.length c0_3) := vb BK442 3
       have hfz26_0 := blk_frozen BK442.out 0
       have hfz26_1 := blk_frozen BK442.out 1
       have hfz26_2 := blk_frozen BK442.out 2
       have hfz26_3 := blk_frozen BK442.out 3
       go_wp2_with (first | ((with_reducible refine gate_callee (f := 36) rfl ?_); refine goesL_ (some 36) rfl rfl Tryd.func36 zk rfl #[.agg #[.int .i64 a0_0, .int .i64 a0_1, .int .i64 a0_2, .slice A0_3 l0_3.length c0_3], .int .i64 a1, .int .i64 a2] rfl zm ?_; (with_reducible refine (kernel_Twins.calls a0_0 a0_1 a0_2 _ _ l0_3 a1 a2 t452 t455 t458 _ ?side1 ?side2 ?side3 A19.out).mono ?_); (case side1 => repeat (first | exact (Kd.C_below HR0_3.out HB.out) | (with_reducible refine Kd.C_alloc ?_ _) | (with_reducible refine Kd.C_drewN ?_ _) | (with_reducible refine Kd.C_drew ?_))); (case side2 => exact HC0_3.out); (case side3 => exact Glob.below HG.out zb); rintro e w27 ⟨v453, v456, rfl, ho0, ho1, hb⟩; refine ⟨_, rfl, ?_⟩; have n0_ := zh (Kd.V_lower (Kd.V_mono (ok' := fun k_ => k_ ≠ gb442) ho0 (fun k_ hk_ => (Kd.freshB (g := gb442) (o := .cells #[.int .i64 a0_0, .int .i64 a0_1, .int .i64 a0_2, .slice A0_3 l0_3.length c0_3] 24 (0, 0)) (zc BK442) k_ hk_))) (below_size zb)); have n1_ := zh (Kd.V_lower (Kd.V_mono (ok' := fun k_ => k_ ≠ gb442) ho1 (fun k_ hk_ => (Kd.freshB (g := gb442) (o := .cells #[.int .i64 a0_0, .int .i64 a0_1, .int .i64 a0_2, .slice A0_3 l0_3.length c0_3] 24 (0, 0)) (zc BK442) k_ hk_))) (below_size zb)); have n2_ := zh (blk_below (g := gb442) (o := .cells #[.int .i64 a0_0, .int .i64 a0_1, .int .i64 a0_2, .slice A0_3 l0_3.length c0_3] 24 (0, 0)) (zc BK442) hb); have n3_ := zh (below_step zb hb); clear BK442; clear HB; have HO454 := n0_; have HO457 := n1_; have BK442 := n2_; have HB := n3_; clear n0_ n1_ n2_ n3_; (try clear hb); (try clear hb2); (try clear hk); (try clear hi); (try clear ho0); (try clear ho1); have hcz28_0 : w27.cell? ⟨gb442, 0, none⟩ = some (.int .i64 a0_0) := vb BK442 0; have hcz28_1 : w27.cell? ⟨gb442, 1, none⟩ = some (.int .i64 a0_1) := vb BK442 1; have hcz28_2 : w27.cell? ⟨gb442, 2, none⟩ = some (.int .i64 a0_2) := vb BK442 2; have hcz28_3 : w27.cell? ⟨gb442, 3, none⟩ = some (.slice A0_3 l0_3.length c0_3) := vb BK442 3; have hfz28_0 := blk_frozen BK442.out 0; have hfz28_1 := blk_frozen BK442.out 1; have hfz28_2 := blk_frozen BK442.out 2; have hfz28_3 := blk_frozen BK442.out 3) | ((with_reducible refine gate_callee (f := 37) rfl ?_); refine goesL_ (some 43) rfl rfl Tryd.func37 zk rfl #[.agg #[.int .i64 a0_0, .int .i64 a0_1, .int .i64 a0_2, .slice A0_3 l0_3.length c0_3], .int .i64 a1, .int .i64 a2] rfl zm ?_; (with_reducible refine (saronref06_Twins.calls kj5 a0_0 a0_1 a0_2 _ _ l0_3 a1 a2 t459 _ ?side1 ?side2 A20.out).mono ?_); (case side1 => repeat (first | exact (Kd.C_below HR0_3.out HB.out) | (with_reducible refine Kd.C_alloc ?_ _) | (with_reducible refine Kd.C_drewN ?_ _) | (with_reducible refine Kd.C_drew ?_))); (case side2 => exact HC0_3.out); rintro e w29 ⟨rfl, hb⟩; refine ⟨_, rfl, ?_⟩; have n0_ := zh (Kd.V_below (zV HO454) hb); have n1_ := zh (Kd.V_below (zV HO457) hb); have n2_ := zh (blk_below (g := gb442) (o := .cells #[.int .i64 a0_0, .int .i64 a0_1, .int .i64 a0_2, .slice A0_3 l0_3.length c0_3] 24 (0, 0)) (zc BK442) hb); have n3_ := zh (below_step zb hb); clear HO454; clear HO457; clear BK442; clear HB; have HO454 := n0_; have HO457 := n1_; have BK442 := n2_; have HB := n3_; clear n0_ n1_ n2_ n3_; (try clear hb); (try clear hb2); (try clear hk); (try clear hi); have hcz30_0 : w29.cell? ⟨gb442, 0, none⟩ = some (.int .i64 a0_0) := vb BK442 0; have hcz30_1 : w29.cell? ⟨gb442, 1, none⟩ = some (.int .i64 a0_1) := vb BK442 1; have hcz30_2 : w29.cell? ⟨gb442, 2, none⟩ = some (.int .i64 a0_2) := vb BK442 2; have hcz30_3 : w29.cell? ⟨gb442, 3, none⟩ = some (.slice A0_3 l0_3.length c0_3) := vb BK442 3; have hfz30_0 := blk_frozen BK442.out 0; have hfz30_1 := blk_frozen BK442.out 1; have hfz30_2 := blk_frozen BK442.out 2; have hfz30_3 := blk_frozen BK442.out 3; obtain ⟨Ao31, co31, eo31⟩ := Kd.V_slice HO454.out; subst eo31; obtain ⟨Ao32, co32, eo32⟩ := Kd.V_slice HO457.out; subst eo32) | ((with_reducible refine gate_callee (f := 38) rfl ?_); refine goesL_ (some 63) rfl rfl Tryd.func38 zk rfl #[.agg #[.int .i64 a0_0, .int .i64 a0_1, .int .i64 a0_2, .slice A0_3 l0_3.length c0_3], .int .i64 a1, .int .i64 a2, .slice Ao31 t452.length co31, .slice Ao32 t455.length co32] rfl zm ?_; (with_reducible refine (saronref06_AreTwins.calls kj5 a0_0 a0_1 a0_2 _ _ l0_3 a1 a2 _ _ t452 _ _ t455 true _ ?side1 ?side2 ?side3 ?side4 ?side5 ?side6 A23.out).mono ?_); (case side1 => repeat (first | exact (Kd.C_below HR0_3.out HB.out) | (with_reducible refine Kd.C_alloc ?_ _) | (with_reducible refine Kd.C_drewN ?_ _) | (with_reducible refine Kd.C_drew ?_))); (case side2 => exact HC0_3.out); (case side3 => repeat (first | exact (Kd.V_reads' HO454.out).2.2 | (with_reducible refine Kd.C_alloc ?_ _) | (with_reducible refine Kd.C_drewN ?_ _) | (with_reducible refine Kd.C_drew ?_))); (case side4 => exact (Kd.V_reads' HO454.out).2.1); (case side5 => repeat (first | exact (Kd.V_reads' HO457.out).2.2 | (with_reducible refine Kd.C_alloc ?_ _) | (with_reducible refine Kd.C_drewN ?_ _) | (with_reducible refine Kd.C_drew ?_))); (case side6 => exact (Kd.V_reads' HO457.out).2.1); rintro e w33 ⟨rfl, hb⟩; refine ⟨_, rfl, ?_⟩; have n0_ := zh (Kd.V_below (zV HO454) hb); have n1_ := zh (Kd.V_below (zV HO457) hb); have n2_ := zh (blk_below (g := gb442) (o := .cells #[.int .i64 a0_0, .int .i64 a0_1, .int .i64 a0_2, .slice A0_3 l0_3.length c0_3] 24 (0, 0)) (zc BK442) hb); have n3_ := zh (below_step zb hb); clear HO454; clear HO457; clear BK442; clear HB; have HO454 := n0_; have HO457 := n1_; have BK442 := n2_; have HB := n3_; clear n0_ n1_ n2_ n3_; (try clear hb); (try clear hb2); (try clear hk); (try clear hi)) | (go_at_call 21; (with_reducible refine (saronlaw06_works.calls  t461 _ ?side1 A25.out).mono ?_); (case side1 => exact Glob.below HG.out zb); rintro e w34 ⟨rfl, hb⟩; have n0_ := zh (Kd.V_below (zV HO454) hb); have n1_ := zh (Kd.V_below (zV HO457) hb); have n2_ := zh (blk_below (g := gb442) (o := .cells #[.int .i64 a0_0, .int .i64 a0_1, .int .i64 a0_2, .slice A0_3 l0_3.length c0_3] 24 (0, 0)) (zc BK442) hb); have n3_ := zh (below_step zb hb); clear HO454; clear HO457; clear BK442; clear HB; have HO454 := n0_; have HO457 := n1_; have BK442 := n2_; have HB := n3_; clear n0_ n1_ n2_ n3_; (try clear hb); (try clear hb2); (try clear hk); (try clear hi)))
       go_ret
       exact ⟨zf, zb⟩
      ·replace c24 := Bool.eq_false_iff.mpr c24
       subst c24
       have H1 : (some false) = some r := by rw [if_neg (show ¬ (false = true) by decide)] at H; exact H
       clear H
       have H := H1
       clear H1
       obtain rfl := Option.some.inj H
       have hcz35_0 : wc.cell? ⟨gb442, 0, none⟩ = some (.int .i64 a0_0) := vb BK442 0
       have hcz35_1 : wc.cell? ⟨gb442, 1, none⟩ = some (.int .i64 a0_1) := vb BK442 1
       have hcz35_2 : wc.cell? ⟨gb442, 2, none⟩ = some (.int .i64 a0_2) := vb BK442 2
       have hcz35_3 : wc.cell? ⟨gb442, 3, none⟩ = some (.slice A0_3 l0_3.length c0_3) := vb BK442 3
       have hfz35_0 := blk_frozen BK442.out 0
       have hfz35_1 := blk_frozen BK442.out 1
       have hfz35_2 := blk_frozen BK442.out 2
       have hfz35_3 := blk_frozen BK442.out 3
       go_wp2_with (first | ((with_reducible refine gate_callee (f := 36) rfl ?_); refine goesL_ (some 36) rfl rfl Tryd.func36 zk rfl #[.agg #[.int .i64 a0_0, .int .i64 a0_1, .int .i64 a0_2, .slice A0_3 l0_3.length c0_3], .int .i64 a1, .int .i64 a2] rfl zm ?_; (with_reducible refine (kernel_Twins.calls a0_0 a0_1 a0_2 _ _ l0_3 a1 a2 t452 t455 t458 _ ?side1 ?side2 ?side3 A19.out).mono ?_); (case side1 => repeat (first | exact (Kd.C_below HR0_3.out HB.out) | (with_reducible refine Kd.C_alloc ?_ _) | (with_reducible refine Kd.C_drewN ?_ _) | (with_reducible refine Kd.C_drew ?_))); (case side2 => exact HC0_3.out); (case side3 => exact Glob.below HG.out zb); rintro e w36 ⟨v453, v456, rfl, ho0, ho1, hb⟩; refine ⟨_, rfl, ?_⟩; have n0_ := zh (Kd.V_lower (Kd.V_mono (ok' := fun k_ => k_ ≠ gb442) ho0 (fun k_ hk_ => (Kd.freshB (g := gb442) (o := .cells #[.int .i64 a0_0, .int .i64 a0_1, .int .i64 a0_2, .slice A0_3 l0_3.length c0_3] 24 (0, 0)) (zc BK442) k_ hk_))) (below_size zb)); have n1_ := zh (Kd.V_lower (Kd.V_mono (ok' := fun k_ => k_ ≠ gb442) ho1 (fun k_ hk_ => (Kd.freshB (g := gb442) (o := .cells #[.int .i64 a0_0, .int .i64 a0_1, .int .i64 a0_2, .slice A0_3 l0_3.length c0_3] 24 (0, 0)) (zc BK442) k_ hk_))) (below_size zb)); have n2_ := zh (blk_below (g := gb442) (o := .cells #[.int .i64 a0_0, .int .i64 a0_1, .int .i64 a0_2, .slice A0_3 l0_3.length c0_3] 24 (0, 0)) (zc BK442) hb); have n3_ := zh (below_step zb hb); clear BK442; clear HB; have HO454 := n0_; have HO457 := n1_; have BK442 := n2_; have HB := n3_; clear n0_ n1_ n2_ n3_; (try clear hb); (try clear hb2); (try clear hk); (try clear hi); (try clear ho0); (try clear ho1); have hcz37_0 : w36.cell? ⟨gb442, 0, none⟩ = some (.int .i64 a0_0) := vb BK442 0; have hcz37_1 : w36.cell? ⟨gb442, 1, none⟩ = some (.int .i64 a0_1) := vb BK442 1; have hcz37_2 : w36.cell? ⟨gb442, 2, none⟩ = some (.int .i64 a0_2) := vb BK442 2; have hcz37_3 : w36.cell? ⟨gb442, 3, none⟩ = some (.slice A0_3 l0_3.length c0_3) := vb BK442 3; have hfz37_0 := blk_frozen BK442.out 0; have hfz37_1 := blk_frozen BK442.out 1; have hfz37_2 := blk_frozen BK442.out 2; have hfz37_3 := blk_frozen BK442.out 3) | ((with_reducible refine gate_callee (f := 37) rfl ?_); refine goesL_ (some 43) rfl rfl Tryd.func37 zk rfl #[.agg #[.int .i64 a0_0, .int .i64 a0_1, .int .i64 a0_2, .slice A0_3 l0_3.length c0_3], .int .i64 a1, .int .i64 a2] rfl zm ?_; (with_reducible refine (saronref06_Twins.calls kj5 a0_0 a0_1 a0_2 _ _ l0_3 a1 a2 t459 _ ?side1 ?side2 A20.out).mono ?_); (case side1 => repeat (first | exact (Kd.C_below HR0_3.out HB.out) | (with_reducible refine Kd.C_alloc ?_ _) | (with_reducible refine Kd.C_drewN ?_ _) | (with_reducible refine Kd.C_drew ?_))); (case side2 => exact HC0_3.out); rintro e w38 ⟨rfl, hb⟩; refine ⟨_, rfl, ?_⟩; have n0_ := zh (Kd.V_below (zV HO454) hb); have n1_ := zh (Kd.V_below (zV HO457) hb); have n2_ := zh (blk_below (g := gb442) (o := .cells #[.int .i64 a0_0, .int .i64 a0_1, .int .i64 a0_2, .slice A0_3 l0_3.length c0_3] 24 (0, 0)) (zc BK442) hb); have n3_ := zh (below_step zb hb); clear HO454; clear HO457; clear BK442; clear HB; have HO454 := n0_; have HO457 := n1_; have BK442 := n2_; have HB := n3_; clear n0_ n1_ n2_ n3_; (try clear hb); (try clear hb2); (try clear hk); (try clear hi); have hcz39_0 : w38.cell? ⟨gb442, 0, none⟩ = some (.int .i64 a0_0) := vb BK442 0; have hcz39_1 : w38.cell? ⟨gb442, 1, none⟩ = some (.int .i64 a0_1) := vb BK442 1; have hcz39_2 : w38.cell? ⟨gb442, 2, none⟩ = some (.int .i64 a0_2) := vb BK442 2; have hcz39_3 : w38.cell? ⟨gb442, 3, none⟩ = some (.slice A0_3 l0_3.length c0_3) := vb BK442 3; have hfz39_0 := blk_frozen BK442.out 0; have hfz39_1 := blk_frozen BK442.out 1; have hfz39_2 := blk_frozen BK442.out 2; have hfz39_3 := blk_frozen BK442.out 3; obtain ⟨Ao40, co40, eo40⟩ := Kd.V_slice HO454.out; subst eo40; obtain ⟨Ao41, co41, eo41⟩ := Kd.V_slice HO457.out; subst eo41) | ((with_reducible refine gate_callee (f := 38) rfl ?_); refine goesL_ (some 63) rfl rfl Tryd.func38 zk rfl #[.agg #[.int .i64 a0_0, .int .i64 a0_1, .int .i64 a0_2, .slice A0_3 l0_3.length c0_3], .int .i64 a1, .int .i64 a2, .slice Ao40 t452.length co40, .slice Ao41 t455.length co41] rfl zm ?_; (with_reducible refine (saronref06_AreTwins.calls kj5 a0_0 a0_1 a0_2 _ _ l0_3 a1 a2 _ _ t452 _ _ t455 false _ ?side1 ?side2 ?side3 ?side4 ?side5 ?side6 A23.out).mono ?_); (case side1 => repeat (first | exact (Kd.C_below HR0_3.out HB.out) | (with_reducible refine Kd.C_alloc ?_ _) | (with_reducible refine Kd.C_drewN ?_ _) | (with_reducible refine Kd.C_drew ?_))); (case side2 => exact HC0_3.out); (case side3 => repeat (first | exact (Kd.V_reads' HO454.out).2.2 | (with_reducible refine Kd.C_alloc ?_ _) | (with_reducible refine Kd.C_drewN ?_ _) | (with_reducible refine Kd.C_drew ?_))); (case side4 => exact (Kd.V_reads' HO454.out).2.1); (case side5 => repeat (first | exact (Kd.V_reads' HO457.out).2.2 | (with_reducible refine Kd.C_alloc ?_ _) | (with_reducible refine Kd.C_drewN ?_ _) | (with_reducible refine Kd.C_drew ?_))); (case side6 => exact (Kd.V_reads' HO457.out).2.1); rintro e w42 ⟨rfl, hb⟩; refine ⟨_, rfl, ?_⟩; have n0_ := zh (Kd.V_below (zV HO454) hb); have n1_ := zh (Kd.V_below (zV HO457) hb); have n2_ := zh (blk_below (g := gb442) (o := .cells #[.int .i64 a0_0, .int .i64 a0_1, .int .i64 a0_2, .slice A0_3 l0_3.length c0_3] 24 (0, 0)) (zc BK442) hb); have n3_ := zh (below_step zb hb); clear HO454; clear HO457; clear BK442; clear HB; have HO454 := n0_; have HO457 := n1_; have BK442 := n2_; have HB := n3_; clear n0_ n1_ n2_ n3_; (try clear hb); (try clear hb2); (try clear hk); (try clear hi)))
       go_ret
       exact ⟨zf, zb⟩
     ·rw [if_neg c22] at H
      have c22b0 : (t459 == 0) = false := beq_eq_false_iff_ne.mpr c22
      have c22b1 : (t459 != 0) = true := bne_iff_ne.mpr c22
      by_cases c43 : (wrap64 ((t452.length : Int) + (t455.length : Int))) = 0
      ·rw [if_pos c43] at H
       have c43b0 : ((wrap64 ((t452.length : Int) + (t455.length : Int))) == 0) = true := beq_iff_eq.mpr c43
       have c43b1 : ((wrap64 ((t452.length : Int) + (t455.length : Int))) != 0) = false := bne_eq_false_iff_eq.mpr c43
       clear c43
       replace H := Option.bind_eq_some_iff.mp H
       obtain ⟨t462, A440, H⟩ := H
       replace H : (some t462) = some r := H
       have A44 := zh A440
       clear A440
       obtain rfl := Option.some.inj H
       have hcz45_0 : wc.cell? ⟨gb442, 0, none⟩ = some (.int .i64 a0_0) := vb BK442 0
       have hcz45_1 : wc.cell? ⟨gb442, 1, none⟩ = some (.int .i64 a0_1) := vb BK442 1
       have hcz45_2 : wc.cell? ⟨gb442, 2, none⟩ = some (.int .i64 a0_2) := vb BK442 2
       have hcz45_3 : wc.cell? ⟨gb442, 3, none⟩ = some (.slice A0_3 l0_3.length c0_3) := vb BK442 3
       have hfz45_0 := blk_frozen BK442.out 0
       have hfz45_1 := blk_frozen BK442.out 1
       have hfz45_2 := blk_frozen BK442.out 2
       have hfz45_3 := blk_frozen BK442.out 3
       go_wp2_with (first | ((with_reducible refine gate_callee (f := 36) rfl ?_); refine goesL_ (some 36) rfl rfl Tryd.func36 zk rfl #[.agg #[.int .i64 a0_0, .int .i64 a0_1, .int .i64 a0_2, .slice A0_3 l0_3.length c0_3], .int .i64 a1, .int .i64 a2] rfl zm ?_; (with_reducible refine (kernel_Twins.calls a0_0 a0_1 a0_2 _ _ l0_3 a1 a2 t452 t455 t458 _ ?side1 ?side2 ?side3 A19.out).mono ?_); (case side1 => repeat (first | exact (Kd.C_below HR0_3.out HB.out) | (with_reducible refine Kd.C_alloc ?_ _) | (with_reducible refine Kd.C_drewN ?_ _) | (with_reducible refine Kd.C_drew ?_))); (case side2 => exact HC0_3.out); (case side3 => exact Glob.below HG.out zb); rintro e w46 ⟨v453, v456, rfl, ho0, ho1, hb⟩; refine ⟨_, rfl, ?_⟩; have n0_ := zh (Kd.V_lower (Kd.V_mono (ok' := fun k_ => k_ ≠ gb442) ho0 (fun k_ hk_ => (Kd.freshB (g := gb442) (o := .cells #[.int .i64 a0_0, .int .i64 a0_1, .int .i64 a0_2, .slice A0_3 l0_3.length c0_3] 24 (0, 0)) (zc BK442) k_ hk_))) (below_size zb)); have n1_ := zh (Kd.V_lower (Kd.V_mono (ok' := fun k_ => k_ ≠ gb442) ho1 (fun k_ hk_ => (Kd.freshB (g := gb442) (o := .cells #[.int .i64 a0_0, .int .i64 a0_1, .int .i64 a0_2, .slice A0_3 l0_3.length c0_3] 24 (0, 0)) (zc BK442) k_ hk_))) (below_size zb)); have n2_ := zh (blk_below (g := gb442) (o := .cells #[.int .i64 a0_0, .int .i64 a0_1, .int .i64 a0_2, .slice A0_3 l0_3.length c0_3] 24 (0, 0)) (zc BK442) hb); have n3_ := zh (below_step zb hb); clear BK442; clear HB; have HO454 := n0_; have HO457 := n1_; have BK442 := n2_; have HB := n3_; clear n0_ n1_ n2_ n3_; (try clear hb); (try clear hb2); (try clear hk); (try clear hi); (try clear ho0); (try clear ho1); have hcz47_0 : w46.cell? ⟨gb442, 0, none⟩ = some (.int .i64 a0_0) := vb BK442 0; have hcz47_1 : w46.cell? ⟨gb442, 1, none⟩ = some (.int .i64 a0_1) := vb BK442 1; have hcz47_2 : w46.cell? ⟨gb442, 2, none⟩ = some (.int .i64 a0_2) := vb BK442 2; have hcz47_3 : w46.cell? ⟨gb442, 3, none⟩ = some (.slice A0_3 l0_3.length c0_3) := vb BK442 3; have hfz47_0 := blk_frozen BK442.out 0; have hfz47_1 := blk_frozen BK442.out 1; have hfz47_2 := blk_frozen BK442.out 2; have hfz47_3 := blk_frozen BK442.out 3) | ((with_reducible refine gate_callee (f := 37) rfl ?_); refine goesL_ (some 43) rfl rfl Tryd.func37 zk rfl #[.agg #[.int .i64 a0_0, .int .i64 a0_1, .int .i64 a0_2, .slice A0_3 l0_3.length c0_3], .int .i64 a1, .int .i64 a2] rfl zm ?_; (with_reducible refine (saronref06_Twins.calls kj5 a0_0 a0_1 a0_2 _ _ l0_3 a1 a2 t459 _ ?side1 ?side2 A20.out).mono ?_); (case side1 => repeat (first | exact (Kd.C_below HR0_3.out HB.out) | (with_reducible refine Kd.C_alloc ?_ _) | (with_reducible refine Kd.C_drewN ?_ _) | (with_reducible refine Kd.C_drew ?_))); (case side2 => exact HC0_3.out); rintro e w48 ⟨rfl, hb⟩; refine ⟨_, rfl, ?_⟩; have n0_ := zh (Kd.V_below (zV HO454) hb); have n1_ := zh (Kd.V_below (zV HO457) hb); have n2_ := zh (blk_below (g := gb442) (o := .cells #[.int .i64 a0_0, .int .i64 a0_1, .int .i64 a0_2, .slice A0_3 l0_3.length c0_3] 24 (0, 0)) (zc BK442) hb); have n3_ := zh (below_step zb hb); clear HO454; clear HO457; clear BK442; clear HB; have HO454 := n0_; have HO457 := n1_; have BK442 := n2_; have HB := n3_; clear n0_ n1_ n2_ n3_; (try clear hb); (try clear hb2); (try clear hk); (try clear hi); obtain ⟨Ao49, co49, eo49⟩ := Kd.V_slice HO454.out; subst eo49; obtain ⟨Ao50, co50, eo50⟩ := Kd.V_slice HO457.out; subst eo50) | (go_at_call 21; (with_reducible refine (saronlaw06_works.calls  t462 _ ?side1 A44.out).mono ?_); (case side1 => exact Glob.below HG.out zb); rintro e w51 ⟨rfl, hb⟩; have n0_ := zh (Kd.V_below (zV HO454) hb); have n1_ := zh (Kd.V_below (zV HO457) hb); have n2_ := zh (blk_below (g := gb442) (o := .cells #[.int .i64 a0_0, .int .i64 a0_1, .int .i64 a0_2, .slice A0_3 l0_3.length c0_3] 24 (0, 0)) (zc BK442) hb); have n3_ := zh (below_step zb hb); clear HO454; clear HO457; clear BK442; clear HB; have HO454 := n0_; have HO457 := n1_; have BK442 := n2_; have HB := n3_; clear n0_ n1_ n2_ n3_; (try clear hb); (try clear hb2); (try clear hk); (try clear hi)))
       go_ret
       exact ⟨zf, zb⟩
      ·rw [if_neg c43] at H
       have c43b0 : ((wrap64 ((t452.length : Int) + (t455.length : Int))) == 0) = false := beq_eq_false_iff_ne.mpr c43
       have c43b1 : ((wrap64 ((t452.length : Int) + (t455.length : Int))) != 0) = true := bne_iff_ne.mpr c43
       obtain rfl := Option.some.inj H
       have hcz52_0 : wc.cell? ⟨gb442, 0, none⟩ = some (.int .i64 a0_0) := vb BK442 0
       have hcz52_1 : wc.cell? ⟨gb442, 1, none⟩ = some (.int .i64 a0_1) := vb BK442 1
       have hcz52_2 : wc.cell? ⟨gb442, 2, none⟩ = some (.int .i64 a0_2) := vb BK442 2
       have hcz52_3 : wc.cell? ⟨gb442, 3, none⟩ = some (.slice A0_3 l0_3.length c0_3) := vb BK442 3
       have hfz52_0 := blk_frozen BK442.out 0
       have hfz52_1 := blk_frozen BK442.out 1
       have hfz52_2 := blk_frozen BK442.out 2
       have hfz52_3 := blk_frozen BK442.out 3
       go_wp2_with (first | ((with_reducible refine gate_callee (f := 36) rfl ?_); refine goesL_ (some 36) rfl rfl Tryd.func36 zk rfl #[.agg #[.int .i64 a0_0, .int .i64 a0_1, .int .i64 a0_2, .slice A0_3 l0_3.length c0_3], .int .i64 a1, .int .i64 a2] rfl zm ?_; (with_reducible refine (kernel_Twins.calls a0_0 a0_1 a0_2 _ _ l0_3 a1 a2 t452 t455 t458 _ ?side1 ?side2 ?side3 A19.out).mono ?_); (case side1 => repeat (first | exact (Kd.C_below HR0_3.out HB.out) | (with_reducible refine Kd.C_alloc ?_ _) | (with_reducible refine Kd.C_drewN ?_ _) | (with_reducible refine Kd.C_drew ?_))); (case side2 => exact HC0_3.out); (case side3 => exact Glob.below HG.out zb); rintro e w53 ⟨v453, v456, rfl, ho0, ho1, hb⟩; refine ⟨_, rfl, ?_⟩; have n0_ := zh (Kd.V_lower (Kd.V_mono (ok' := fun k_ => k_ ≠ gb442) ho0 (fun k_ hk_ => (Kd.freshB (g := gb442) (o := .cells #[.int .i64 a0_0, .int .i64 a0_1, .int .i64 a0_2, .slice A0_3 l0_3.length c0_3] 24 (0, 0)) (zc BK442) k_ hk_))) (below_size zb)); have n1_ := zh (Kd.V_lower (Kd.V_mono (ok' := fun k_ => k_ ≠ gb442) ho1 (fun k_ hk_ => (Kd.freshB (g := gb442) (o := .cells #[.int .i64 a0_0, .int .i64 a0_1, .int .i64 a0_2, .slice A0_3 l0_3.length c0_3] 24 (0, 0)) (zc BK442) k_ hk_))) (below_size zb)); have n2_ := zh (blk_below (g := gb442) (o := .cells #[.int .i64 a0_0, .int .i64 a0_1, .int .i64 a0_2, .slice A0_3 l0_3.length c0_3] 24 (0, 0)) (zc BK442) hb); have n3_ := zh (below_step zb hb); clear BK442; clear HB; have HO454 := n0_; have HO457 := n1_; have BK442 := n2_; have HB := n3_; clear n0_ n1_ n2_ n3_; (try clear hb); (try clear hb2); (try clear hk); (try clear hi); (try clear ho0); (try clear ho1); have hcz54_0 : w53.cell? ⟨gb442, 0, none⟩ = some (.int .i64 a0_0) := vb BK442 0; have hcz54_1 : w53.cell? ⟨gb442, 1, none⟩ = some (.int .i64 a0_1) := vb BK442 1; have hcz54_2 : w53.cell? ⟨gb442, 2, none⟩ = some (.int .i64 a0_2) := vb BK442 2; have hcz54_3 : w53.cell? ⟨gb442, 3, none⟩ = some (.slice A0_3 l0_3.length c0_3) := vb BK442 3; have hfz54_0 := blk_frozen BK442.out 0; have hfz54_1 := blk_frozen BK442.out 1; have hfz54_2 := blk_frozen BK442.out 2; have hfz54_3 := blk_frozen BK442.out 3) | ((with_reducible refine gate_callee (f := 37) rfl ?_); refine goesL_ (some 43) rfl rfl Tryd.func37 zk rfl #[.agg #[.int .i64 a0_0, .int .i64 a0_1, .int .i64 a0_2, .slice A0_3 l0_3.length c0_3], .int .i64 a1, .int .i64 a2] rfl zm ?_; (with_reducible refine (saronref06_Twins.calls kj5 a0_0 a0_1 a0_2 _ _ l0_3 a1 a2 t459 _ ?side1 ?side2 A20.out).mono ?_); (case side1 => repeat (first | exact (Kd.C_below HR0_3.out HB.out) | (with_reducible refine Kd.C_alloc ?_ _) | (with_reducible refine Kd.C_drewN ?_ _) | (with_reducible refine Kd.C_drew ?_))); (case side2 => exact HC0_3.out); rintro e w55 ⟨rfl, hb⟩; refine ⟨_, rfl, ?_⟩; have n0_ := zh (Kd.V_below (zV HO454) hb); have n1_ := zh (Kd.V_below (zV HO457) hb); have n2_ := zh (blk_below (g := gb442) (o := .cells #[.int .i64 a0_0, .int .i64 a0_1, .int .i64 a0_2, .slice A0_3 l0_3.length c0_3] 24 (0, 0)) (zc BK442) hb); have n3_ := zh (below_step zb hb); clear HO454; clear HO457; clear BK442; clear HB; have HO454 := n0_; have HO457 := n1_; have BK442 := n2_; have HB := n3_; clear n0_ n1_ n2_ n3_; (try clear hb); (try clear hb2); (try clear hk); (try clear hi); obtain ⟨Ao56, co56, eo56⟩ := Kd.V_slice HO454.out; subst eo56; obtain ⟨Ao57, co57, eo57⟩ := Kd.V_slice HO457.out; subst eo57))
       go_ret
       exact ⟨zf, zb⟩
    ·rw [if_neg c21] at H
     have c21b0 : (t458 == t459) = false := beq_eq_false_iff_ne.mpr c21
     have c21b1 : (t458 != t459) = true := bne_iff_ne.mpr c21
     obtain rfl := Option.some.inj H
     have hcz58_0 : wc.cell? ⟨gb442, 0, none⟩ = some (.int .i64 a0_0) := vb BK442 0
     have hcz58_1 : wc.cell? ⟨gb442, 1, none⟩ = some (.int .i64 a0_1) := vb BK442 1
     have hcz58_2 : wc.cell? ⟨gb442, 2, none⟩ = some (.int .i64 a0_2) := vb BK442 2
     have hcz58_3 : wc.cell? ⟨gb442, 3, none⟩ = some (.slice A0_3 l0_3.length c0_3) := vb BK442 3
     have hfz58_0 := blk_frozen BK442.out 0
     have hfz58_1 := blk_frozen BK442.out 1
     have hfz58_2 := blk_frozen BK442.out 2
     have hfz58_3 := blk_frozen BK442.out 3
     go_wp2_with (first | ((with_reducible refine gate_callee (f := 36) rfl ?_); refine goesL_ (some 36) rfl rfl Tryd.func36 zk rfl #[.agg #[.int .i64 a0_0, .int .i64 a0_1, .int .i64 a0_2, .slice A0_3 l0_3.length c0_3], .int .i64 a1, .int .i64 a2] rfl zm ?_; (with_reducible refine (kernel_Twins.calls a0_0 a0_1 a0_2 _ _ l0_3 a1 a2 t452 t455 t458 _ ?side1 ?side2 ?side3 A19.out).mono ?_); (case side1 => repeat (first | exact (Kd.C_below HR0_3.out HB.out) | (with_reducible refine Kd.C_alloc ?_ _) | (with_reducible refine Kd.C_drewN ?_ _) | (with_reducible refine Kd.C_drew ?_))); (case side2 => exact HC0_3.out); (case side3 => exact Glob.below HG.out zb); rintro e w59 ⟨v453, v456, rfl, ho0, ho1, hb⟩; refine ⟨_, rfl, ?_⟩; have n0_ := zh (Kd.V_lower (Kd.V_mono (ok' := fun k_ => k_ ≠ gb442) ho0 (fun k_ hk_ => (Kd.freshB (g := gb442) (o := .cells #[.int .i64 a0_0, .int .i64 a0_1, .int .i64 a0_2, .slice A0_3 l0_3.length c0_3] 24 (0, 0)) (zc BK442) k_ hk_))) (below_size zb)); have n1_ := zh (Kd.V_lower (Kd.V_mono (ok' := fun k_ => k_ ≠ gb442) ho1 (fun k_ hk_ => (Kd.freshB (g := gb442) (o := .cells #[.int .i64 a0_0, .int .i64 a0_1, .int .i64 a0_2, .slice A0_3 l0_3.length c0_3] 24 (0, 0)) (zc BK442) k_ hk_))) (below_size zb)); have n2_ := zh (blk_below (g := gb442) (o := .cells #[.int .i64 a0_0, .int .i64 a0_1, .int .i64 a0_2, .slice A0_3 l0_3.length c0_3] 24 (0, 0)) (zc BK442) hb); have n3_ := zh (below_step zb hb); clear BK442; clear HB; have HO454 := n0_; have HO457 := n1_; have BK442 := n2_; have HB := n3_; clear n0_ n1_ n2_ n3_; (try clear hb); (try clear hb2); (try clear hk); (try clear hi); (try clear ho0); (try clear ho1); have hcz60_0 : w59.cell? ⟨gb442, 0, none⟩ = some (.int .i64 a0_0) := vb BK442 0; have hcz60_1 : w59.cell? ⟨gb442, 1, none⟩ = some (.int .i64 a0_1) := vb BK442 1; have hcz60_2 : w59.cell? ⟨gb442, 2, none⟩ = some (.int .i64 a0_2) := vb BK442 2; have hcz60_3 : w59.cell? ⟨gb442, 3, none⟩ = some (.slice A0_3 l0_3.length c0_3) := vb BK442 3; have hfz60_0 := blk_frozen BK442.out 0; have hfz60_1 := blk_frozen BK442.out 1; have hfz60_2 := blk_frozen BK442.out 2; have hfz60_3 := blk_frozen BK442.out 3) | ((with_reducible refine gate_callee (f := 37) rfl ?_); refine goesL_ (some 43) rfl rfl Tryd.func37 zk rfl #[.agg #[.int .i64 a0_0, .int .i64 a0_1, .int .i64 a0_2, .slice A0_3 l0_3.length c0_3], .int .i64 a1, .int .i64 a2] rfl zm ?_; (with_reducible refine (saronref06_Twins.calls kj5 a0_0 a0_1 a0_2 _ _ l0_3 a1 a2 t459 _ ?side1 ?side2 A20.out).mono ?_); (case side1 => repeat (first | exact (Kd.C_below HR0_3.out HB.out) | (with_reducible refine Kd.C_alloc ?_ _) | (with_reducible refine Kd.C_drewN ?_ _) | (with_reducible refine Kd.C_drew ?_))); (case side2 => exact HC0_3.out); rintro e w61 ⟨rfl, hb⟩; refine ⟨_, rfl, ?_⟩; have n0_ := zh (Kd.V_below (zV HO454) hb); have n1_ := zh (Kd.V_below (zV HO457) hb); have n2_ := zh (blk_below (g := gb442) (o := .cells #[.int .i64 a0_0, .int .i64 a0_1, .int .i64 a0_2, .slice A0_3 l0_3.length c0_3] 24 (0, 0)) (zc BK442) hb); have n3_ := zh (below_step zb hb); clear HO454; clear HO457; clear BK442; clear HB; have HO454 := n0_; have HO457 := n1_; have BK442 := n2_; have HB := n3_; clear n0_ n1_ n2_ n3_; (try clear hb); (try clear hb2); (try clear hk); (try clear hi)))
     go_ret
     exact ⟨zf, zb⟩
end Go.Proofs.YtagkfkdoibnhfaaDoor.H
end
section
namespace Go.Proofs.YtagkfkdoibnhfaaDoor.K
open Go.RowKit Go.Proofs.YtagkfkdoibnhfaaDoorW.PrintWords Go.Proofs.YtagkfkdoibnhfaaDoorW.PrintMore Go.Proofs.YtagkfkdoibnhfaaDoor.H
def pr61 (p : Nat × Nat) : S61 := ⟨(p.1 : Int), (p.2 : Int)⟩
def alone (T O : Int) (R : List S66) (p : Nat × Nat) : Bool := (twins T O R (p.1 : Int) (p.2 : Int)).isNone
def rpRow (T O : Int) (R : List S66) (i j : Nat) : List S61 := (((List.range (R.length - j)).map fun k => (i, j + k)).filter (alone T O R)).map pr61
theorem rpRow_end (T O : Int) (R : List S66) (i : Nat) : rpRow T O R i R.length = [] := by
 unfold rpRow
 rw [Nat.sub_self]
 rfl
theorem rpRow_cons (T O : Int) (R : List S66) (i j : Nat) (h : j < R.length) : rpRow T O R i j = (if alone T O R (i, j) = true then [pr61 (i, j)] else []) ++ rpRow T O R i (j + 1) := by
 unfold rpRow
 have e : R.length - j = (R.length - (j + 1)) + 1 := by omega
 have e2 : (List.map (fun k => (i, j + k)) (List.range (R.length - j))) = (i, j) :: List.map (fun k => (i, j + 1 + k)) (List.range (R.length - (j + 1))) := by
  rw [e, List.range_succ_eq_map, List.map_cons, List.map_map]
  congr 1
  apply List.map_congr_left
  intro x _
  show (i, j + (x + 1)) = (i, j + 1 + x)
  congr 1
  omega
 rw [e2, List.filter_cons]
 cases alone T O R (i, j) <;> rfl
section
variable (T O L : Int) (m : Nat) (R : List S66) (hS : okScale T O L R = true) (hm : T * O = (m : Int)) (hm' : m ≤ 21)
include hS hm hm'
theorem pairs_l1 (i : Nat) (hi : i < R.length) (K0 : Nat) (h0 : 320000 ≤ K0) (Fc : List S61 → List S61) (hc : ∀ (k : Nat) (acc : List S61), K0 ≤ k → acc.length ≤ 10 * (i + 1) → saronref06_Pairs.l0 k acc ((i + 1 : Nat) : Int) T O L R = some (Fc acc, 0)) (d : Nat) :
  ∀ (k j : Nat) (acc : List S61), R.length - j = d → j ≤ R.length → acc.length ≤ 10 * i + j → K0 + d + 1 ≤ k → saronref06_Pairs.l1 k acc (i : Int) (j : Int) T O L R = some (Fc (acc ++ rpRow T O R i j), 0) := by
 obtain ⟨t1, t2, t3, t4, t5, t6, t7, t8, t9, hok⟩ := okScale_regs hS
 induction d with
 | zero =>
  intro k j acc hd hj hl hk
  obtain ⟨k, rfl⟩ : ∃ z, k = z + 1 := ⟨k - 1, by omega⟩
  obtain rfl : j = R.length := by omega
  simp only [saronref06_Pairs.l1]
  rw [if_neg (by omega), up1 i (by omega), hc k acc (by omega) (by omega), rpRow_end, List.append_nil]
 | succ d ih =>
  intro k j acc hd hj hl hk
  obtain ⟨k, rfl⟩ : ∃ z, k = z + 1 := ⟨k - 1, by omega⟩
  simp only [saronref06_Pairs.l1]
  rw [if_pos (by omega), back_f T O L i j m R hS (by omega) (by omega) (by omega) (by omega) hm hm' k (by omega), Option.bind_some, up1 j (by omega), rpRow_cons T O R i j (by omega)]
  by_cases h : (twins T O R (i : Int) (j : Int)).isNone = true
  ·rw [if_pos h, if_pos (by omega), ih k (j + 1) _ (by omega) (by omega) (by simp; omega) (by omega), if_pos (show alone T O R (i, j) = true from h), List.append_assoc]
   rfl
  ·rw [if_neg h, ih k (j + 1) _ (by omega) (by omega) (by omega) (by omega), if_neg (show ¬ alone T O R (i, j) = true from h), List.nil_append]
theorem pairs_l0 (d : Nat) : ∀ (k i : Nat) (acc : List S61), R.length - i = d → i ≤ R.length → acc.length ≤ 10 * i → 320000 + 10 * d + 1 ≤ k →
  saronref06_Pairs.l0 k acc (i : Int) T O L R = some (acc ++ ((((List.range R.length).drop i).flatMap fun i => (List.range (R.length - (i + 1))).map fun k => (i, i + 1 + k)).filter (alone T O R)).map pr61, 0) := by
 obtain ⟨t1, t2, t3, t4, t5, t6, t7, t8, t9, hok⟩ := okScale_regs hS
 induction d with
 | zero =>
  intro k i acc hd hi hl hk
  obtain ⟨k, rfl⟩ : ∃ z, k = z + 1 := ⟨k - 1, by omega⟩
  obtain rfl : i = R.length := by omega
  have e0 : (List.range R.length).drop R.length = [] := List.drop_eq_nil_of_le (by rw [List.length_range]; exact Nat.le_refl _)
  simp only [saronref06_Pairs.l0]
  rw [if_neg (by omega), e0]
  simp
 | succ d ih =>
  intro k i acc hd hi hl hk
  obtain ⟨k, rfl⟩ : ∃ z, k = z + 1 := ⟨k - 1, by omega⟩
  have h1 := pairs_l1 T O L m R hS hm hm' i (by omega) (320000 + 10 * d + 1) (by omega) _ (fun k acc hk hl => ih k (i + 1) acc (by omega) (by omega) hl hk) (R.length - (i + 1)) k (i + 1) acc rfl (by omega) (by omega) (by omega)
  simp only [saronref06_Pairs.l0]
  rw [if_pos (by omega), up1 i (by omega), h1, drop_range_cons R.length i (by omega), List.flatMap_cons, List.filter_append, List.map_append, List.append_assoc]
  rfl
end
theorem rPairs_f (T O L : Int) (R : List S66) (hR : R.length ≤ 9223372036854775807) (k : Nat) (hk : 2 * R.length + 330000 ≤ k) : saronref06_Pairs.f k T O L R = some (Pairs T O L R) := by
 unfold saronref06_Pairs.f Pairs
 rw [rcheck_f T O L R hR k (by omega), Option.bind_some]
 cases hS : okScale T O L R
 ·rfl
 obtain ⟨t1, t2, t3, t4, t5, t6, t7, t8, t9, hok⟩ := okScale_regs hS
 have mr := mul_range t1 t2 t3 t4
 obtain ⟨m, hm⟩ : ∃ m : Nat, T * O = (m : Int) := Int.eq_ofNat_of_zero_le (by omega)
 have h := pairs_l0 T O L m R hS hm (by omega) R.length k 0 [] (Nat.sub_zero _) (Nat.zero_le _) (Nat.le_refl _) (by omega)
 rw [if_pos rfl, if_pos rfl]
 refine h.trans ?_
 rw [List.drop_zero, List.nil_append]
 rfl
theorem rTwins_f (T O L one other : Int) (R : List S66) (hR : R.length ≤ 9223372036854775807) (k : Nat) (hk : 2 * R.length + 330000 ≤ k) : saronref06_Twins.f k T O L R one other = some (Twins T O L R one other).2.2 := by
 obtain ⟨k, rfl⟩ : ∃ z, k = z + 1 := ⟨k - 1, by omega⟩
 unfold saronref06_Twins.f Twins
 rw [rcheck_f T O L R hR (k + 1) (by omega), Option.bind_some]
 cases hS : okScale T O L R
 ·rfl
 obtain ⟨t1, t2, t3, t4, t5, t6, t7, t8, t9, hok⟩ := okScale_regs hS
 have mr := mul_range t1 t2 t3 t4
 obtain ⟨m, hm⟩ : ∃ m : Nat, T * O = (m : Int) := Int.eq_ofNat_of_zero_le (by omega)
 rw [if_pos rfl, if_pos rfl, if_pos rfl, sits_f, Option.bind_some, w64 (by omega) (by omega)]
 by_cases h1 : 0 ≤ one ∧ one < R.length
 ·rw [if_pos (by rw [decide_eq_true h1.1, decide_eq_true (by omega : one ≤ (R.length : Int) - 1)]; rfl), sits_f, Option.bind_some]
  by_cases h2 : 0 ≤ other ∧ other < R.length
  ·rw [decide_eq_true h2.1, decide_eq_true (by omega : other ≤ (R.length : Int) - 1), if_pos ⟨h1.1, h1.2, h2.1, h2.2⟩]
   simp only [saronref06_Twins.j0, Bool.and_self, Bool.not_true]
   rw [if_neg (by simp), back_f T O L one other m R hS h1.1 h1.2 h2.1 h2.2 hm (by omega) k (by omega), Option.bind_some]
   cases ht : twins T O R one other with
   | none => rfl
   | some q => obtain ⟨p, q⟩ := q; rfl
  ·have e : (decide (0 ≤ other) && decide (other ≤ (R.length : Int) - 1)) = false := by
    by_cases h : 0 ≤ other
    ·rw [decide_eq_false (by omega : ¬ other ≤ (R.length : Int) - 1), Bool.and_false]
    ·rw [decide_eq_false h, Bool.false_and]
   rw [e, if_neg (fun h => h2 ⟨h.2.2.1, h.2.2.2⟩)]
   simp only [saronref06_Twins.j0, Bool.not_false, if_true]
 ·have e : (decide (0 ≤ one) && decide (one ≤ (R.length : Int) - 1)) = false := by
   by_cases h : 0 ≤ one
   ·rw [decide_eq_false (by omega : ¬ one ≤ (R.length : Int) - 1), Bool.and_false]
   ·rw [decide_eq_false h, Bool.false_and]
  rw [e, if_neg (by simp), if_neg (fun h => h1 ⟨h.1, h.2.1⟩)]
  simp only [saronref06_Twins.j0, if_true]
theorem irange_mem' {x lo hi : Int} (h : x ∈ irange lo hi) : lo ≤ x ∧ x ≤ hi := by
 unfold irange at h
 rw [List.mem_map] at h
 obtain ⟨i, hi, rfl⟩ := h
 rw [List.mem_range] at hi
 omega
theorem pairs_mem' {m : Int} {q : Int × Int} (h : q ∈ pairsOf m) : (0 ≤ q.1 ∧ q.1 ≤ m - 1) ∧ 0 ≤ q.2 ∧ q.2 ≤ m - 1 := by
 unfold pairsOf at h
 rw [List.mem_flatMap] at h
 obtain ⟨a, ha, h⟩ := h
 rw [List.mem_map] at h
 obtain ⟨b, hb, rfl⟩ := h
 exact ⟨irange_mem' ha, irange_mem' hb⟩
theorem Part_len' (T O L r : Int) (R : List S66) (l : List Int) : (Part T O L R l r).1.length ≤ 64 := by
 unfold Part
 split
 ·rename_i hS
  obtain ⟨t1, t2, t3, t4, t5, t6, t7, t8, t9, hok⟩ := okScale_regs hS
  split
  ·rename_i hP
   unfold okPart at hP
   simp only [Bool.and_eq_true, decide_eq_true_eq] at hP
   have := partOf_len T R r l
   have h := hP.1.1.1
   show (partOf T R r l).length ≤ 64
   omega
  ·simp
 ·simp
theorem twinsOf_some (f : Int × Int → List Int) : ∀ (rest met : List (Int × Int)) (q p : Int × Int), (met ++ rest).Nodup → twinsOf f met rest = some (q, p) → f q = f p ∧ q ≠ p ∧ q ∈ met ++ rest ∧ p ∈ met ++ rest
 | [], met, q, p, hn, h => by simp [twinsOf] at h
 | x :: rest, met, q, p, hn, h => by
  rw [twinsOf_cons] at h
  cases hf : met.find? fun q => f q == f x with
  | none =>
   rw [hf] at h
   have := twinsOf_some f rest (met ++ [x]) q p (by simpa using hn) h
   simpa using this
  | some y =>
   rw [hf] at h
   simp only [Option.some.injEq, Prod.mk.injEq] at h
   obtain ⟨rfl, rfl⟩ := h
   have hm1 := List.mem_of_find?_eq_some hf
   have hm2 := List.find?_some hf
   have hm3 : f y = f x := beq_iff_eq.1 hm2
   refine ⟨hm3, ?_, by simp [hm1], by simp⟩
   rintro rfl
   rw [List.nodup_append] at hn
   exact hn.2.2 _ hm1 _ (by simp) rfl
theorem times_cons (n : Nat) (p : Int × Int) : times (n + 1) p = p.1 :: p.2 :: times n p := by
 unfold times
 rw [List.range_succ_eq_map, List.flatMap_cons, List.flatMap_map]
 rfl
theorem times_length (n : Nat) (p : Int × Int) : (times n p).length = 2 * n := by
 induction n with
 | zero => rfl
 | succ n ih => rw [times_cons]; simp only [List.length_cons, ih]; omega
theorem times_mems (n : Nat) (p : Int × Int) (x : Int) (h : x ∈ times n p) : x = p.1 ∨ x = p.2 := by
 unfold times at h
 rw [List.mem_flatMap] at h
 obtain ⟨_, _, h⟩ := h
 simpa using h
theorem areTwins_f (T O L one other : Int) (m : Nat) (R : List S66) (hS : okScale T O L R = true) (h1 : 0 ≤ one) (h1' : one < R.length) (h2 : 0 ≤ other) (h2' : other < R.length) (hm : T * O = (m : Int)) (p q : Int × Int) (ht : twins T O R one other = some (p, q)) (k : Nat) (hk : 2 * R.length + 1000 ≤ k) :
  saronref06_AreTwins.f k T O L R one other (times (L / 2).toNat p) (q.1 :: q.2 :: times ((L / 2).toNat - 1) p) = some true := by
 obtain ⟨t1, t2, t3, t4, t5, t6, t7, t8, t9, hok⟩ := okScale_regs hS
 unfold twins at ht
 rw [hm] at ht
 obtain ⟨hf, hne, hp, hq⟩ := twinsOf_some _ (pairsOf (m : Int)) [] p q (pairs_nodup _) ht
 have hp' := pairs_mem' hp
 have hq' := pairs_mem' hq
 obtain ⟨n, hn⟩ : ∃ n, (L / 2).toNat = n + 1 := ⟨(L / 2).toNat - 1, by omega⟩
 rw [hn, Nat.add_sub_cancel, times_cons]
 have hlen := times_length n p
 obtain ⟨f1, f2⟩ := List.append_inj hf (by rw [strokes_width, strokes_width])
 have okp : ∀ r : Int, 0 ≤ r → r < R.length → okPart T O L R (p.1 :: p.2 :: times n p) r = true := fun r hr hr' => by
  unfold okPart
  simp only [Bool.and_eq_true, decide_eq_true_eq, List.all_eq_true, List.length_cons, List.mem_cons]
  refine ⟨⟨⟨by omega, hr⟩, hr'⟩, fun x hx => ?_⟩
  rw [hm]
  rcases hx with rfl | rfl | hx
  ·omega
  ·omega
  ·rcases times_mems n p x hx with rfl | rfl <;> omega
 have okq : ∀ r : Int, 0 ≤ r → r < R.length → okPart T O L R (q.1 :: q.2 :: times n p) r = true := fun r hr hr' => by
  unfold okPart
  simp only [Bool.and_eq_true, decide_eq_true_eq, List.all_eq_true, List.length_cons, List.mem_cons]
  refine ⟨⟨⟨by omega, hr⟩, hr'⟩, fun x hx => ?_⟩
  rw [hm]
  rcases hx with rfl | rfl | hx
  ·omega
  ·omega
  ·rcases times_mems n p x hx with rfl | rfl <;> omega
 have pp : ∀ r : Int, 0 ≤ r → r < R.length → Part T O L R (p.1 :: p.2 :: times n p) r = (strokes T R r p.1 p.2 ++ partOf T R r (times n p), 0) := fun r hr hr' => by
  unfold Part
  rw [if_pos hS, if_pos (okp r hr hr')]
  rfl
 have pq : ∀ r : Int, 0 ≤ r → r < R.length → Part T O L R (q.1 :: q.2 :: times n p) r = (strokes T R r q.1 q.2 ++ partOf T R r (times n p), 0) := fun r hr hr' => by
  unfold Part
  rw [if_pos hS, if_pos (okq r hr hr')]
  rfl
 have hl2 : (p.1 :: p.2 :: times n p).length ≤ 20 := by simp only [List.length_cons]; omega
 have hl3 : (q.1 :: q.2 :: times n p).length ≤ 20 := by simp only [List.length_cons]; omega
 have b1 := Part_len' T O L one R (p.1 :: p.2 :: times n p)
 have b2 := Part_len' T O L other R (p.1 :: p.2 :: times n p)
 rw [pp one h1 h1'] at b1
 rw [pp other h2 h2'] at b2
 unfold saronref06_AreTwins.f
 rw [rPart_f T O L one R _ (by omega) (by omega) k (by omega), Option.bind_some, rPart_f T O L one R _ (by omega) (by omega) k (by omega), Option.bind_some, rPart_f T O L other R _ (by omega) (by omega) k (by omega), Option.bind_some, rPart_f T O L other R _ (by omega) (by omega) k (by omega), Option.bind_some,
  pp one h1 h1', pq one h1 h1', pp other h2 h2', pq other h2 h2', if_pos rfl, if_pos rfl, if_pos rfl, if_pos rfl, equal_any _ _ (by omega) k (by omega), Option.bind_some, if_pos (decide_eq_true (by rw [f1])), equal_any _ _ (by omega) k (by omega), Option.bind_some, if_pos (decide_eq_true (by rw [f2])), equal_any _ _ (by omega) k (by omega), Option.bind_some, decide_eq_false (fun h => ?_)]
 ·rfl
 ·injection h with h1 h
  injection h with h2 h
  exact hne (Prod.ext h1 h2)
end Go.Proofs.YtagkfkdoibnhfaaDoor.K
end
section
namespace Go.Proofs.YtagkfkdoibnhfaaDoor.K
open Go.RowKit Go.Proofs.YtagkfkdoibnhfaaDoorW.PrintWords Go.Proofs.YtagkfkdoibnhfaaDoorW.PrintMore Go.Proofs.YtagkfkdoibnhfaaDoor.H
theorem samePairs_l0 (l : List S61) (hm : l.length ≤ 1000) (d : Nat) : ∀ (k i : Nat), l.length - i = d → i ≤ l.length → d + 1 ≤ k → saronref06_SamePairs.l0 k l l true (i : Int) = some true := by
 induction d with
 | zero =>
  intro k i hd hi hk
  obtain ⟨k, rfl⟩ : ∃ z, k = z + 1 := ⟨k - 1, by omega⟩
  simp only [saronref06_SamePairs.l0, if_true]
  rw [if_neg (by omega)]
 | succ d ih =>
  intro k i hd hi hk
  obtain ⟨k, rfl⟩ : ∃ z, k = z + 1 := ⟨k - 1, by omega⟩
  simp only [saronref06_SamePairs.l0, if_true]
  rw [if_pos (by omega), if_pos (by omega), if_pos (by omega), beq_self_eq_true, beq_self_eq_true, up1 i (by omega)]
  exact ih k (i + 1) (by omega) (by omega) (by omega)
theorem samePairs_self (l : List S61) (hm : l.length ≤ 1000) (k : Nat) (hk : l.length + 1 ≤ k) : saronref06_SamePairs.f k l l = some true := by
 unfold saronref06_SamePairs.f
 rw [beq_self_eq_true]
 exact samePairs_l0 l hm l.length k 0 (Nat.sub_zero _) (Nat.zero_le _) hk
theorem flatMap_len_le {α β : Type} (f : α → List β) (B : Nat) : ∀ l : List α, (∀ x ∈ l, (f x).length ≤ B) → (l.flatMap f).length ≤ l.length * B
 | [], _ => by simp
 | x :: l, h => by
  have h1 := h x (by simp)
  have h2 := flatMap_len_le f B l (fun y hy => h y (by simp [hy]))
  rw [List.flatMap_cons, List.length_append, List.length_cons, Nat.add_mul, Nat.one_mul]
  omega
theorem Pairs_len (T O L : Int) (R : List S66) : (Pairs T O L R).1.length ≤ 25 := by
 unfold Pairs
 split
 ·rename_i hS
  obtain ⟨t1, t2, t3, t4, t5, t6, t7, t8, t9, hok⟩ := okScale_regs hS
  show (List.map _ (List.filter _ _)).length ≤ 25
  rw [List.length_map]
  refine Nat.le_trans (List.length_filter_le _ _) ?_
  unfold registerPairs
  refine Nat.le_trans (flatMap_len_le _ 5 _ (fun x _ => by rw [List.length_map, List.length_range]; omega)) ?_
  rw [List.length_range]
  omega
 ·simp
theorem pairs_law (T O L one other : Int) (R : List S66) (hR : R.length ≤ 9223372036854775807) (k : Nat) (hk : 2 * R.length + 330010 ≤ k) : saronlaw06_KernelPairs.f k T O L R one other = some true := by
 have hl := Pairs_len T O L R
 obtain ⟨k, rfl⟩ : ∃ z, k = z + 1 := ⟨k - 1, by omega⟩
 unfold saronlaw06_KernelPairs.f kernel_Pairs.f
 rw [Option.bind_some, rPairs_f T O L R hR (k + 1) (by omega), Option.bind_some, samePairs_self _ (by omega) (k + 1) (by omega), Option.bind_some, if_pos rfl, bne_self_eq_false]
 simp only [saronlaw06_KernelPairs.j0, kernel_Twins.f, Option.bind_some]
 rw [if_neg (by simp), rTwins_f T O L one other R hR k (by omega), Option.bind_some, if_pos rfl]
 unfold Twins
 cases hS : okScale T O L R
 ·rw [if_neg (by simp), if_pos (by simp [wrap64])]; rfl
 obtain ⟨t1, t2, t3, t4, t5, t6, t7, t8, t9, hok⟩ := okScale_regs hS
 have mr := mul_range t1 t2 t3 t4
 obtain ⟨m, hm⟩ : ∃ m : Nat, T * O = (m : Int) := Int.eq_ofNat_of_zero_le (by omega)
 rw [if_pos rfl]
 by_cases hb : 0 ≤ one ∧ one < R.length ∧ 0 ≤ other ∧ other < R.length
 ·rw [if_pos hb]
  cases ht : twins T O R one other with
  | none => rw [if_neg (by simp), if_pos (by simp [wrap64])]; rfl
  | some pq =>
   obtain ⟨p, q⟩ := pq
   show (if (0 : Int) = 0 then _ else _) = _
   rw [if_pos rfl]
   show (saronref06_AreTwins.f k T O L R one other (times (L / 2).toNat p) (q.1 :: q.2 :: times ((L / 2).toNat - 1) p)).bind _ = _
   rw [areTwins_f T O L one other m R hS hb.1 hb.2.1 hb.2.2.1 hb.2.2.2 hm p q ht k (by omega), Option.bind_some, if_pos rfl]
   rfl
 ·rw [if_neg hb]
  rw [if_neg (by simp), if_pos (by simp [wrap64])]; rfl
end Go.Proofs.YtagkfkdoibnhfaaDoor.K
end
section
namespace Go.Proofs.YtagkfkdoibnhfaaDoor.kernelPairs
open Go.ChangeShapes Go.WideShapes Go.ChangeAt Go.RowKit Go.Proofs.YtagkfkdoibnhfaaDoorW.PrintWords Go.Proofs.YtagkfkdoibnhfaaDoor.H Go.Proofs.YtagkfkdoibnhfaaDoor.K
set_option linter.unusedVariables false
theorem own : ownKnob Tryd.prog.godebug = none := by kernel_rfl
theorem laidOut : laidOutB Tryd.prog = true := by kernel_rfl
theorem door_met (os : Os) (args : Array Value) : laidMetH Tryd.prog laid1 ((World.doorLaid Tryd.prog 600 os).forCall (fun _ _ => 0) ⟨#[], args, []⟩).memory :=
 laidMetH_of_parts3 (fuel := 8) (laidMet_of_run' 8 zk zk) zk zk
set_option maxRecDepth 100000 in
set_option maxHeartbeats 2000000 in
theorem lifted (os : Os) (started : os.Started) (H : Type) (enc : TypeId × Value → H) :
  ReturnsInHanded {} Tryd.checked os 6 .any (fun w args => (Rows.kernelPairsSpec.pre enc Tryd.prog Tryd.f6 [] false w args ∧ laidMetH Tryd.prog laid1 w) ∧ sizedMet enc Tryd.prog Tryd.f6 (OpenSpec.ofChange Rows.kernelPairsSpec) false w args)
   (Rows.kernelPairsSpec.post enc Tryd.prog Tryd.f6 false true false false) := by
 refine returnsInHanded_of_change_and (C := Tryd.checked) (X := fun w _ => laidMetH Tryd.prog laid1 w) (fun _ _ _ hh h => h.of_heap hh) own started zk Tryd.func6
  (ChangeSpec.witness_shaped (enc := enc) (C := Tryd.checked) (os := os) (X := fun w _ => laidMetH Tryd.prog laid1 w) false (World.doorLaid Tryd.prog 600 os) #[.agg #[.int .i64 0, .int .i64 0, .int .i64 0, .slice none 0 0], .int .i64 0, .int .i64 0] 8 rfl (World.shaped_of_RefB zk zk) zk zk zk (door_met os _)) ?_
 intro W base args ds gs before hval0 hW _ _ hL _
 have hval : ∀ (j : Nat) t v, Tryd.f6.params[j]? = some t → args[j]? = some v → Value.okWide Tryd.prog W .any base t v := hval0
 have hW' := hW
 obtain ⟨p, q, hA0, hV, rfl, hfz, hnd⟩ := hW
 have hA : DataW.TrodAll enc Tryd.prog W 0 (fun _ => true) true Tryd.f6.params.toList args.toList ds p := hA0
 rw [Tryd.params6] at hA hval
 obtain ⟨v0, vs0, d0, ds0, p0, q0, hargs, rfl, rfl, h0, r0⟩ := trodAll_cons hA
 obtain ⟨v1, vs1, d1, ds1, p1, q1, rfl, rfl, rfl, h1, r1⟩ := trodAll_cons r0
 obtain ⟨v2, vs2, d2, ds2, p2, q2, rfl, rfl, rfl, h2, r2⟩ := trodAll_cons r1
 obtain ⟨rfl, rfl, rfl⟩ := trodAll_nil r2
 obtain rfl : args = #[v0, v1, v2] := by cases args; simp_all
 obtain ⟨rfl, rfl⟩ := trodVars_none hV
 have k0 := h0
 have lt0 : ∀ x ∈ p0, x.block < W.heap.size := by obtain ⟨m, hm⟩ := k0; exact DataW.trod_lt m _ _ _ hm
 obtain ⟨T0, O0, L0, A0, R0, c0, rfl, hc0, hC0, iT0, iO0, iL0, sR0, iR0⟩ := arg_scale (hval 0 24 v0 rfl rfl) h0
 obtain ⟨a1, rfl, rfl, rfl, w1⟩ := open_int Tryd.underlying3 (hval 1 3 v1 rfl rfl) h1
 obtain ⟨a2, rfl, rfl, rfl, w2⟩ := open_int Tryd.underlying3 (hval 2 3 v2 rfl rfl) h2
 clear hA0 hval0
 have hG := glob_of_laid hL
 refine (saronlaw06_KernelPairs.calls (2 * R0.length + 330010) T0 O0 L0 A0 c0 R0 a1 a2 true W hC0 hc0 hG (pairs_law T0 O0 L0 a1 a2 R0 sR0 _ (Nat.le_refl _))).mono fun e W' ⟨he, bel⟩ => ?_
 subst he
 exact ⟨_, rfl, _, _, _, [], _, [], hW', trodAll_mk1 (shut_bool Tryd.underlying4 _), (trodAll_cons_mk (Below.trod laidOut zk (of_decide_eq_true zk) k0 bel lt0) (trodAll_cons_mk (shut_int Tryd.underlying3 w1) (trodAll_cons_mk (shut_int Tryd.underlying3 w2) trodAll_mk0))), rfl, bel.frame _, fun h => by cases h⟩
theorem over : Rows.kernelPairsRow.holds Tryd.pinned (OpenSpec.ofChange Rows.kernelPairsSpec) :=
 OpenClaim.holds_of_wide 6 Tryd.f6 rfl rfl rfl rfl rfl rfl rfl ⟨rfl, rfl, rfl, rfl, rfl⟩ rfl rfl rfl rfl rfl zk Tryd.func6 zk
  (of_decide_eq_true zk) (by unfold Func.isWrapper; first | (rw [if_pos (by decide +kernel)]; kernel_rfl) | (rw [if_neg (by decide +kernel)]; exact ⟨rfl, rfl⟩))
  (fun os started H enc _ => lifted os started H enc)
theorem proved : Rows.KernelPairsCardSaid :=
 Claim7.holds_tied_plain_at .later [] [.funcs] true (true, "1546f209dbcbef264cbb20aea537f6d5569935ba401e115858a8843598e79524") false
  over (fun _ h => by cases h) zk (fun _ h => by cases h) kernelPairs_row_tie rfl ⟨rfl, rfl⟩ zk rfl
  (fun f fn hf hfn => by
   obtain rfl : f = 6 := Option.some.inj ((show Tryd.prog.funcNamed "saron/saronlaw06.KernelPairs" = some 6 by kernel_rfl).symm.trans hf) |>.symm
   obtain rfl : fn = Tryd.f6 := (Option.some.inj (Tryd.func6.symm.trans hfn)).symm
   exact ⟨by kernel_rfl, fun j t ht => by
    rw [Tryd.params6] at ht
    have hm : t ∈ [24, 3, 3] := by simpa using Array.mem_of_getElem? ht
    have hall : ([24, 3, 3].all fun u => !Tryd.prog.wantsStandIn u) = true := by kernel_rfl
    exact (show Tryd.prog.wantsStandIn t = false by simpa using List.all_eq_true.1 hall t hm)⟩)
  zk
end Go.Proofs.YtagkfkdoibnhfaaDoor.kernelPairs
namespace Go.Proofs.YtagkfkdoibnhfaaDoor
theorem kernelPairs_card : Rows.KernelPairsCardSaid := kernelPairs.proved
end Go.Proofs.YtagkfkdoibnhfaaDoor
end
