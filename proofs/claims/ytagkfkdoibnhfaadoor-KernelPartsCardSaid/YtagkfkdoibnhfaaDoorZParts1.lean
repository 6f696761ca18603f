/- KernelParts: for every scale, every list of tones and every register the law returns true, and each argument reads afterwards as it read before. Condition: when the call begins the package's table of rules reads as the program's text lays it; the card ties that to the text. -/
import Derived.Below
import Derived.Carry
import Derived.LaidMore
import Derived.OpenShut
import Derived.ProofKit
import Derived.SevenTiedAt
import Derived.SizedLaws
import Derived.Stop.Joined
import Derived.WalkKit
import Derived.Test.YtagkfkdoibnhfaaDoorCards
import Derived.Test.YtagkfkdoibnhfaaDoorTie
import Derived.Test.YtagkfkdoibnhfaaDoorZB2
import Derived.Test.YtagkfkdoibnhfaaDoorZB4
set_option linter.all false
namespace Go.Proofs
theorem dPt1 {p : Prop} (h : p := by (with_reducible repeat (first | refine blk_drewN ?_ _ | refine blk_drew ?_ | refine blk_alloc ?_ _)); refine blk_put (cs := #[.int .i64 ((rd_T66 l0_3 a1).f0), .int .i64 ((rd_T66 l0_3 a1).f1), .int .i64 ((rd_T66 l0_3 a1).f2), .int .i64 0]) ?_ 3 _ rfl; (with_reducible repeat (first | refine blk_drewN ?_ _ | refine blk_drew ?_ | refine blk_alloc ?_ _)); refine blk_put (cs := #[.int .i64 ((rd_T66 l0_3 a1).f0), .int .i64 ((rd_T66 l0_3 a1).f1), .int .i64 0, .int .i64 0]) ?_ 2 _ rfl; (with_reducible repeat (first | refine blk_drewN ?_ _ | refine blk_drew ?_ | refine blk_alloc ?_ _)); refine blk_put (cs := #[.int .i64 ((rd_T66 l0_3 a1).f0), .int .i64 0, .int .i64 0, .int .i64 0]) ?_ 1 _ rfl; (with_reducible repeat (first | refine blk_drewN ?_ _ | refine blk_drew ?_ | refine blk_alloc ?_ _)); refine blk_put (cs := #[.int .i64 0, .int .i64 0, .int .i64 0, .int .i64 0]) ?_ 0 _ rfl; (with_reducible repeat (first | refine blk_drewN ?_ _ | refine blk_drew ?_ | refine blk_alloc ?_ _)); exact BK134.out) : p := h
theorem dPt2 {p : Prop} (h : p := by (with_reducible repeat (first | refine blk_drewN ?_ _ | refine blk_drew ?_ | refine blk_alloc ?_ _)); refine blk_far ?_ NB132_134.out _; (with_reducible repeat (first | refine blk_drewN ?_ _ | refine blk_drew ?_ | refine blk_alloc ?_ _)); refine blk_far ?_ NB132_134.out _; (with_reducible repeat (first | refine blk_drewN ?_ _ | refine blk_drew ?_ | refine blk_alloc ?_ _)); refine blk_far ?_ NB132_134.out _; (with_reducible repeat (first | refine blk_drewN ?_ _ | refine blk_drew ?_ | refine blk_alloc ?_ _)); refine blk_far ?_ NB132_134.out _; (with_reducible repeat (first | refine blk_drewN ?_ _ | refine blk_drew ?_ | refine blk_alloc ?_ _)); exact BK132.out) : p := h
end Go.Proofs
section
namespace Go.Proofs.YtagkfkdoibnhfaaDoor.H
open Go.RowKit Go.Proofs.YtagkfkdoibnhfaaDoorW.PrintWords Go.Proofs.YtagkfkdoibnhfaaDoorW.PrintLast Go.Proofs.YtagkfkdoibnhfaaDoorW.PrintMore
attribute [local go_sem] max2_int min2_int max_two min_two max_three min_three max_four min_four   -- for this text's walks alone
set_option linter.unusedVariables false
set_option linter.unusedSimpArgs false
def saronref06_tones.f (a0_0 : Int) (a0_1 : Int) (a0_2 : Int) (l0_3 : List (S66)) : Option (Int) := some (wrap64 (a0_0 * a0_1))
set_option maxHeartbeats 8000000 in
set_option maxRecDepth 100000 in
theorem saronref06_tones.calls (a0_0 : Int) (a0_1 : Int) (a0_2 : Int) (A0_3 : Option Addr) (c0_3 : Nat) (l0_3 : List (S66)) (r : Int) (w : World) (hr0_3 : Kd.C k66 w A0_3 l0_3.length l0_3) (hc0_3 : l0_3.length ≤ c0_3) (h : saronref06_tones.f a0_0 a0_1 a0_2 l0_3 = some r) :
  Calls Tryd.prog 58 #[.agg #[.int .i64 a0_0, .int .i64 a0_1, .int .i64 a0_2, .slice A0_3 l0_3.length c0_3]] w fun e w' => e = .returned (.int .i64 r) ∧ Below w.heap.size w w' := by
 have hu24 := Tryd.underlying24
 have HR0_3 := zh hr0_3
 have HC0_3 := zh hc0_3
 clear hr0_3 hc0_3
 have HB := zh (Below.refl w.heap.size w)
 have H : (some (wrap64 (a0_0 * a0_1))) = some r := h
 clear h
 obtain rfl := Option.some.inj H
 go_enter Tryd.func58, Tryd.ntmps58
 go_wp2_with (first | ((with_reducible refine gate_dst (N := 1) rfl ?_); refine box_event ?hg (N := 1) ?hd (cs := #[.int .i64 a0_0, .int .i64 a0_1, .int .i64 a0_2, .slice A0_3 l0_3.length c0_3]) (t := 24) ?hr ?_; (case hd => rfl); (case hg => rfl); (case hr => first | (go_simp; done) | (go_simp; rfl)); intro gb112 hg w2 hbox hb; have n0_ := zh (below_step zb hb); have n1_ := zh (hbox); have n2_ := zh ((by rw [hg]; exact (below_size zb) : w.heap.size ≤ gb112)); have n3_ := zh ((by rw [hg]; exact (below_size zb) : w.heap.size ≤ gb112)); clear HB; have HB := n0_; have BK112 := n1_; have GW112 := n2_; have GE112 := n3_; clear n0_ n1_ n2_ n3_; clear hb hbox hg; have hcz3_0 : w2.cell? ⟨gb112, 0, none⟩ = some (.int .i64 a0_0) := vb BK112 0; have hcz3_1 : w2.cell? ⟨gb112, 1, none⟩ = some (.int .i64 a0_1) := vb BK112 1; have hcz3_2 : w2.cell? ⟨gb112, 2, none⟩ = some (.int .i64 a0_2) := vb BK112 2; have hcz3_3 : w2.cell? ⟨gb112, 3, none⟩ = some (.slice A0_3 l0_3.length c0_3) := vb BK112 3; have hfz3_0 := blk_frozen BK112.out 0; have hfz3_1 := blk_frozen BK112.out 1; have hfz3_2 := blk_frozen BK112.out 2; have hfz3_3 := blk_frozen BK112.out 3))
 go_ret
 exact ⟨zf, zb⟩
end Go.Proofs.YtagkfkdoibnhfaaDoor.H
end
section
namespace Go.Proofs.YtagkfkdoibnhfaaDoor.H
open Go.RowKit Go.Proofs.YtagkfkdoibnhfaaDoorW.PrintWords Go.Proofs.YtagkfkdoibnhfaaDoorW.PrintLast Go.Proofs.YtagkfkdoibnhfaaDoorW.PrintMore
attribute [local go_sem] max2_int min2_int max_two min_two max_three min_three max_four min_four   -- for this text's walks alone
set_option linter.unusedVariables false
set_option linter.unusedSimpArgs false
mutual
def saronref06_Check.j0 : Nat → Bool → Int → Int → Int → List (S66) → Option (Int)
 | 0, _, _, _, _, _ => none
 | k + 1, x3, x116000, x116001, x116002, x116003 => saronref06_Check.l0 k x3 0 x116000 x116001 x116002 x116003
def saronref06_Check.l0 : Nat → Bool → Int → Int → Int → Int → List (S66) → Option (Int)
 | 0, _, _, _, _, _, _ => none
 | k + 1, x3, x4, x116000, x116001, x116002, x116003 => if x3 = true then (saronref06_Check.j2 k x3 x4 (decide (x4 < (x116003.length : Int))) x116000 x116001 x116002 x116003) else (saronref06_Check.j2 k x3 x4 false x116000 x116001 x116002 x116003)
def saronref06_Check.j2 : Nat → Bool → Int → Bool → Int → Int → Int → List (S66) → Option (Int)
 | 0, _, _, _, _, _, _, _ => none
 | k + 1, x3, x4, x38, x116000, x116001, x116002, x116003 => if x38 = true then (if 0 ≤ x4 then (if x4 < (x116003.length : Int) then ((saronref00_Sits.f ((rd_T66 x116003 x4).f0) 0 4).bind fun t122 => (if t122 = true then ((saronref00_Band.f ((rd_T66 x116003 x4).f1) ((rd_T66 x116003 x4).f2)).bind fun bt123 => ((saronref06_tones.f x116000 x116001 x116002 x116003).bind fun t125 => ((saronref00_Good.f bt123.1 bt123.2 0 (wrap64 (t125 - 1))).bind fun t126 => (if t126 = true then ((saronref00_Sits.f ((rd_T66 x116003 x4).f3) (-6) 6).bind fun t127 => (saronref06_Check.l0 k t127 (wrap64 (x4 + 1)) x116000 x116001 x116002 x116003)) else (saronref06_Check.l0 k false (wrap64 (x4 + 1)) x116000 x116001 x116002 x116003))))) else (saronref06_Check.l0 k false (wrap64 (x4 + 1)) x116000 x116001 x116002 x116003))) else (none)) else (none)) else (if x3 = true then (some 0) else (some 60))
end
def saronref06_Check.f (k : Nat) (a0_0 : Int) (a0_1 : Int) (a0_2 : Int) (l0_3 : List (S66)) : Option (Int) := (saronref00_Sits.f a0_0 2 7).bind fun t116 => (if t116 = true then ((saronref00_Sits.f a0_1 1 3).bind fun t117 => (if t117 = true then ((saronref00_Sits.f a0_2 2 16).bind fun t118 => (if t118 = true then (if (Int.tmod a0_2 2) = 0 then ((saronref00_Sits.f (l0_3.length : Int) 1 5).bind fun t119 => (saronref06_Check.j0 k t119 a0_0 a0_1 a0_2 l0_3)) else (saronref06_Check.j0 k false a0_0 a0_1 a0_2 l0_3)) else (saronref06_Check.j0 k false a0_0 a0_1 a0_2 l0_3))) else (saronref06_Check.j0 k false a0_0 a0_1 a0_2 l0_3))) else (saronref06_Check.j0 k false a0_0 a0_1 a0_2 l0_3))
def saronref06_Check.T6 : Bool × List (List Nat × List Nat) := (true, [([], []), ([0], [0]), ([1], [1]), ([2, 2], [2]), ([3], [3]), ([4, 3], [3, 4]), ([3], [3]), ([6, 3], [3, 6]), ([5, 7, 3, 3], [3, 5, 7]), ([3], [3]), ([9, 8, 3], [3, 9]), ([10, 3], [3, 10]), ([8, 11, 10, 3], [3, 8, 11]), ([3, 12], [3, 12]), ([13, 12], [13]), ([14], [14]), ([15, 14], [14, 15]), ([16, 14, 14], [14, 16]), ([14, 17], [14, 17]), ([18, 17, 0, 1, 2, 3, 4, 5, 6, 7, 8, 9, 10, 11, 12, 13, 14, 15, 16, 17, 18], [18])])
def saronref06_Check.B6 : List Nat := [0, 1, 3, 7, 15, 31, 15, 79, 255, 15, 1023, 2047, 4095, 8191, 16383, 32767, 65535, 131071, 262143, 524287]
theorem saronref06_Check.tab6 : rtab .any (opsOf Tryd.f20 6) = saronref06_Check.T6 := by kernel_rfl
theorem saronref06_Check.bits6 : waitsOk saronref06_Check.T6.2 saronref06_Check.B6 = true := by kernel_rfl
set_option maxHeartbeats 8000000 in
set_option maxRecDepth 100000 in
theorem saronref06_Check.calls (k : Nat) (a0_0 : Int) (a0_1 : Int) (a0_2 : Int) (A0_3 : Option Addr) (c0_3 : Nat) (l0_3 : List (S66)) (r : Int) (w : World) (hr0_3 : Kd.C k66 w A0_3 l0_3.length l0_3) (hc0_3 : l0_3.length ≤ c0_3) (h : saronref06_Check.f k a0_0 a0_1 a0_2 l0_3 = some r) :
  Calls Tryd.prog 20 #[.agg #[.int .i64 a0_0, .int .i64 a0_1, .int .i64 a0_2, .slice A0_3 l0_3.length c0_3]] w fun e w' => e = .returned (.int .i64 r) ∧ Below w.heap.size w w' := by
 have hu24 := Tryd.underlying24
 have hu66 := Tryd.underlying66
 have HR0_3 := zh hr0_3
 have HC0_3 := zh hc0_3
 clear hr0_3 hc0_3
 have HB := zh (Below.refl w.heap.size w)
 have H : ((saronref00_Sits.f a0_0 2 7).bind fun t116 => (if t116 = true then ((saronref00_Sits.f a0_1 1 3).bind fun t117 => (if t117 = true then ((saronref00_Sits.f a0_2 2 16).bind fun t118 => (if t118 = true then (if (Int.tmod a0_2 2) = 0 then ((saronref00_Sits.f (l0_3.length : Int) 1 5).bind fun t119 => (saronref06_Check.j0 k t119 a0_0 a0_1 a0_2 l0_3)) else (saronref06_Check.j0 k false a0_0 a0_1 a0_2 l0_3)) else (saronref06_Check.j0 k false a0_0 a0_1 a0_2 l0_3))) else (saronref06_Check.j0 k false a0_0 a0_1 a0_2 l0_3))) else (saronref06_Check.j0 k false a0_0 a0_1 a0_2 l0_3))) = some r := h
 clear h
 have HC2 := zh H
 clear H
 go_enter Tryd.func20, Tryd.ntmps20
 go_upto_region 1 with (first | ((with_reducible refine gate_dst (N := 1) rfl ?_); (try (refine gate_guard (by rfl) ?_; dsimp only)); refine box_event ?hg (N := 1) ?hd (cs := #[.int .i64 a0_0, .int .i64 a0_1, .int .i64 a0_2, .slice A0_3 l0_3.length c0_3]) (t := 24) ?hr ?_; (case hd => rfl); (case hg => rfl); (case hr => first | (go_simp; done) | (go_simp; rfl)); intro gb115 hg w3 hbox hb; have n0_ := zh (below_step zb hb); have n1_ := zh (hbox); have n2_ := zh ((by rw [hg]; exact (below_size zb) : w.heap.size ≤ gb115)); have n3_ := zh ((by rw [hg]; exact (below_size zb) : w.heap.size ≤ gb115)); clear HB; have HB := n0_; have BK115 := n1_; have GW115 := n2_; have GE115 := n3_; clear n0_ n1_ n2_ n3_; clear hb hbox hg))
 (try simp only [Act.put, List.setIfInBounds_toArray, List.set_cons_zero, List.set_cons_succ])
 go_cut [3] (fun v3 wc => ∃ (kq : Nat) (x3_1 : Bool), v3 = .bool x3_1 ∧ Aside0 (saronref06_Check.j0 kq x3_1 a0_0 a0_1 a0_2 l0_3 = some r) ∧ Aside0 (kq ≤ k) ∧ Aside0 (wc.heap[gb115]? = some (.cells #[.int .i64 a0_0, .int .i64 a0_1, .int .i64 a0_2, (.slice A0_3 l0_3.length c0_3)] 24 (0, 0))) ∧ Aside0 (Below w.heap.size w wc))
 case first =>
  have H := HC2.out
  clear HC2
  replace H := Option.bind_eq_some_iff.mp H
  obtain ⟨t116, A40, H⟩ := H
  replace H : (if t116 = true then ((saronref00_Sits.f a0_1 1 3).bind fun t117 => (if t117 = true then ((saronref00_Sits.f a0_2 2 16).bind fun t118 => (if t118 = true then (if (Int.tmod a0_2 2) = 0 then ((saronref00_Sits.f (l0_3.length : Int) 1 5).bind fun t119 => (saronref06_Check.j0 k t119 a0_0 a0_1 a0_2 l0_3)) else (saronref06_Check.j0 k false a0_0 a0_1 a0_2 l0_3)) else (saronref06_Check.j0 k false a0_0 a0_1 a0_2 l0_3))) else (saronref06_Check.j0 k false a0_0 a0_1 a0_2 l0_3))) else (saronref06_Check.j0 k false a0_0 a0_1 a0_2 l0_3)) = some r := H
  have A4 := zh A40
  clear A40
  by_cases c5 : t116 = true
  ·subst c5
   have H1 : ((saronref00_Sits.f a0_1 1 3).bind fun t117 => (if t117 = true then ((saronref00_Sits.f a0_2 2 16).bind fun t118 => (if t118 = true then (if (Int.tmod a0_2 2) = 0 then ((saronref00_Sits.f (l0_3.length : Int) 1 5).bind fun t119 => (saronref06_Check.j0 k t119 a0_0 a0_1 a0_2 l0_3)) else (saronref06_Check.j0 k false a0_0 a0_1 a0_2 l0_3)) else (saronref06_Check.j0 k false a0_0 a0_1 a0_2 l0_3))) else (saronref06_Check.j0 k false a0_0 a0_1 a0_2 l0_3))) = some r := by rw [if_pos rfl] at H; exact H
   clear H
   have H := H1
   clear H1
   replace H := Option.bind_eq_some_iff.mp H
   obtain ⟨t117, A60, H⟩ := H
   replace H : (if t117 = true then ((saronref00_Sits.f a0_2 2 16).bind fun t118 => (if t118 = true then (if (Int.tmod a0_2 2) = 0 then ((saronref00_Sits.f (l0_3.length : Int) 1 5).bind fun t119 => (saronref06_Check.j0 k t119 a0_0 a0_1 a0_2 l0_3)) else (saronref06_Check.j0 k false a0_0 a0_1 a0_2 l0_3)) else (saronref06_Check.j0 k false a0_0 a0_1 a0_2 l0_3))) else (saronref06_Check.j0 k false a0_0 a0_1 a0_2 l0_3)) = some r := H
   have A6 := zh A60
   clear A60
   by_cases c7 : t117 = true
   ·subst c7
    have H1 : ((saronref00_Sits.f a0_2 2 16).bind fun t118 => (if t118 = true then (if (Int.tmod a0_2 2) = 0 then ((saronref00_Sits.f (l0_3.length : Int) 1 5).bind fun t119 => (saronref06_Check.j0 k t119 a0_0 a0_1 a0_2 l0_3)) else (saronref06_Check.j0 k false a0_0 a0_1 a0_2 l0_3)) else (saronref06_Check.j0 k false a0_0 a0_1 a0_2 l0_3))) = some r := by rw [if_pos rfl] at H; exact H
    clear H
    have H := H1
    clear H1
    replace H := Option.bind_eq_some_iff.mp H
    obtain ⟨t118, A80, H⟩ := H
    replace H : (if t118 = true then (if (Int.tmod a0_2 2) = 0 then ((saronref00_Sits.f (l0_3.length : Int) 1 5).bind fun t119 => (saronref06_Check.j0 k t119 a0_0 a0_1 a0_2 l0_3)) else (saronref06_Check.j0 k false a0_0 a0_1 a0_2 l0_3)) else (saronref06_Check.j0 k false a0_0 a0_1 a0_2 l0_3)) = some r := H
    have A8 := zh A80
    clear A80
    by_cases c9 : t118 = true
    ·subst c9
     have H1 : (if (Int.tmod a0_2 2) = 0 then ((saronref00_Sits.f (l0_3.length : Int) 1 5).bind fun t119 => (saronref06_Check.j0 k t119 a0_0 a0_1 a0_2 l0_3)) else (saronref06_Check.j0 k false a0_0 a0_1 a0_2 l0_3)) = some r := by rw [if_pos rfl] at H; exact H
     clear H
     have H := H1
     clear H1
     by_cases c10 : (Int.tmod a0_2 2) = 0
     ·rw [if_pos c10] at H
      have c10b0 : ((Int.tmod a0_2 2) == 0) = true := beq_iff_eq.mpr c10
      have c10b1 : ((Int.tmod a0_2 2) != 0) = false := bne_eq_false_iff_eq.mpr c10
      clear c10
      (first | rw [c10b0] | (simp only [i64_w, i32_w]; rw [c10b0]) | skip)
      replace H := Option.bind_eq_some_iff.mp H
      obtain ⟨t119, A110, H⟩ := H
      replace H : (saronref06_Check.j0 k t119 a0_0 a0_1 a0_2 l0_3) = some r := H
      have A11 := zh A110
      clear A110
      have H' := zh H
      clear H
      have hcz12_0 : w3.cell? ⟨gb115, 0, none⟩ = some (.int .i64 a0_0) := vb BK115 0
      have hcz12_1 : w3.cell? ⟨gb115, 1, none⟩ = some (.int .i64 a0_1) := vb BK115 1
      have hcz12_2 : w3.cell? ⟨gb115, 2, none⟩ = some (.int .i64 a0_2) := vb BK115 2
      have hcz12_3 : w3.cell? ⟨gb115, 3, none⟩ = some (.slice A0_3 l0_3.length c0_3) := vb BK115 3
      have hfz12_0 := blk_frozen BK115.out 0
      have hfz12_1 := blk_frozen BK115.out 1
      have hfz12_2 := blk_frozen BK115.out 2
      have hfz12_3 := blk_frozen BK115.out 3
      go_wp2_with (first | ((with_reducible refine gate_callee (f := 45) rfl ?_); refine goesL_ (some 8) rfl rfl Tryd.func45 zk rfl #[.int .i64 a0_0, .int .i64 2, .int .i64 7] rfl zm ?_; (with_reducible refine (saronref00_Sits.calls a0_0 2 7 true _ A4.out).mono ?_); rintro e w' ⟨rfl, ⟨nd, rfl⟩⟩; refine ⟨_, rfl, ?_⟩) | (go_at_call 45; (with_reducible refine (saronref00_Sits.calls a0_1 1 3 true _ A6.out).mono ?_); rintro e w' ⟨rfl, ⟨nd, rfl⟩⟩) | (go_at_call 45; (with_reducible refine (saronref00_Sits.calls a0_2 2 16 true _ A8.out).mono ?_); rintro e w' ⟨rfl, ⟨nd, rfl⟩⟩) | (go_at_call 45; (with_reducible refine (saronref00_Sits.calls (l0_3.length : Int) 1 5 t119 _ A11.out).mono ?_); rintro e w' ⟨rfl, ⟨nd, rfl⟩⟩))
      go_meet
      case rel => exact ⟨_, (t119), ze, H', ⟨zo1⟩, ⟨zc BK115⟩, ⟨zb⟩⟩
     ·rw [if_neg c10] at H
      have c10b0 : ((Int.tmod a0_2 2) == 0) = false := beq_eq_false_iff_ne.mpr c10
      have c10b1 : ((Int.tmod a0_2 2) != 0) = true := bne_iff_ne.mpr c10
      (first | rw [c10b0] | (simp only [i64_w, i32_w]; rw [c10b0]) | skip)
      have H' := zh H
      clear H
      have hcz13_0 : w3.cell? ⟨gb115, 0, none⟩ = some (.int .i64 a0_0) := vb BK115 0
      have hcz13_1 : w3.cell? ⟨gb115, 1, none⟩ = some (.int .i64 a0_1) := vb BK115 1
      have hcz13_2 : w3.cell? ⟨gb115, 2, none⟩ = some (.int .i64 a0_2) := vb BK115 2
      have hcz13_3 : w3.cell? ⟨gb115, 3, none⟩ = some (.slice A0_3 l0_3.length c0_3) := vb BK115 3
      have hfz13_0 := blk_frozen BK115.out 0
      have hfz13_1 := blk_frozen BK115.out 1
      have hfz13_2 := blk_frozen BK115.out 2
      have hfz13_3 := blk_frozen BK115.out 3
      go_wp2_with (first | ((with_reducible refine gate_callee (f := 45) rfl ?_); refine goesL_ (some 8) rfl rfl Tryd.func45 zk rfl #[.int .i64 a0_0, .int .i64 2, .int .i64 7] rfl zm ?_; (with_reducible refine (saronref00_Sits.calls a0_0 2 7 true _ A4.out).mono ?_); rintro e w' ⟨rfl, ⟨nd, rfl⟩⟩; refine ⟨_, rfl, ?_⟩) | (go_at_call 45; (with_reducible refine (saronref00_Sits.calls a0_1 1 3 true _ A6.out).mono ?_); rintro e w' ⟨rfl, ⟨nd, rfl⟩⟩) | (go_at_call 45; (with_reducible refine (saronref00_Sits.calls a0_2 2 16 true _ A8.out).mono ?_); rintro e w' ⟨rfl, ⟨nd, rfl⟩⟩))
      go_meet
      case rel => exact ⟨_, (false), ze, H', ⟨zo1⟩, ⟨zc BK115⟩, ⟨zb⟩⟩
    ·replace c9 := Bool.eq_false_iff.mpr c9
     subst c9
     have H1 : (saronref06_Check.j0 k false a0_0 a0_1 a0_2 l0_3) = some r := by rw [if_neg (show ¬ (false = true) by decide)] at H; exact H
     clear H
     have H := H1
     clear H1
     have H' := zh H
     clear H
     have hcz14_0 : w3.cell? ⟨gb115, 0, none⟩ = some (.int .i64 a0_0) := vb BK115 0
     have hcz14_1 : w3.cell? ⟨gb115, 1, none⟩ = some (.int .i64 a0_1) := vb BK115 1
     have hcz14_2 : w3.cell? ⟨gb115, 2, none⟩ = some (.int .i64 a0_2) := vb BK115 2
     have hcz14_3 : w3.cell? ⟨gb115, 3, none⟩ = some (.slice A0_3 l0_3.length c0_3) := vb BK115 3
     have hfz14_0 := blk_frozen BK115.out 0
     have hfz14_1 := blk_frozen BK115.out 1
     have hfz14_2 := blk_frozen BK115.out 2
     have hfz14_3 := blk_frozen BK115.out 3
     go_wp2_with (first | ((with_reducible refine gate_callee (f := 45) rfl ?_); refine goesL_ (some 8) rfl rfl Tryd.func45 zk rfl #[.int .i64 a0_0, .int .i64 2, .int .i64 7] rfl zm ?_; (with_reducible refine (saronref00_Sits.calls a0_0 2 7 true _ A4.out).mono ?_); rintro e w' ⟨rfl, ⟨nd, rfl⟩⟩; refine ⟨_, rfl, ?_⟩) | (go_at_call 45; (with_reducible refine (saronref00_Sits.calls a0_1 1 3 true _ A6.out).mono ?_); rintro e w' ⟨rfl, ⟨nd, rfl⟩⟩) | (go_at_call 45; (with_reducible refine (saronref00_Sits.calls a0_2 2 16 false _ A8.out).mono ?_); rintro e w' ⟨rfl, ⟨nd, rfl⟩⟩))
     go_meet
     case rel => exact ⟨_, (false), ze, H', ⟨zo1⟩, ⟨zc BK115⟩, ⟨zb⟩⟩
   ·replace c7 := Bool.eq_false_iff.mpr c7
    subst c7
    have H1 : (saronref06_Check.j0 k false a0_0 a0_1 a0_2 l0_3) = some r := by rw [if_neg (show ¬ (false = true) by decide)] at H; exact H
    clear H
    have H := H1
    clear H1
    have H' := zh H
    clear H
    have hcz15_0 : w3.cell? ⟨gb115, 0, none⟩ = some (.int .i64 a0_0) := vb BK115 0
    have hcz15_1 : w3.cell? ⟨gb115, 1, none⟩ = some (.int .i64 a0_1) := vb BK115 1
    have hcz15_2 : w3.cell? ⟨gb115, 2, none⟩ = some (.int .i64 a0_2) := vb BK115 2
    have hcz15_3 : w3.cell? ⟨gb115, 3, none⟩ = some (.slice A0_3 l0_3.length c0_3) := vb BK115 3
    have hfz15_0 := blk_frozen BK115.out 0
    have hfz15_1 := blk_frozen BK115.out 1
    have hfz15_2 := blk_frozen BK115.out 2
    have hfz15_3 := blk_frozen BK115.out 3
    go_wp2_with (first | ((with_reducible refine gate_callee (f := 45) rfl ?_); refine goesL_ (some 8) rfl rfl Tryd.func45 zk rfl #[.int .i64 a0_0, .int .i64 2, .int .i64 7] rfl zm ?_; (with_reducible refine (saronref00_Sits.calls a0_0 2 7 true _ A4.out).mono ?_); rintro e w' ⟨rfl, ⟨nd, rfl⟩⟩; refine ⟨_, rfl, ?_⟩) | (go_at_call 45; (with_reducible refine (saronref00_Sits.calls a0_1 1 3 false _ A6.out).mono ?_); rintro e w' ⟨rfl, ⟨nd, rfl⟩⟩))
    go_meet
    case rel => exact ⟨_, (false), ze, H', ⟨zo1⟩, ⟨zc BK115⟩, ⟨zb⟩⟩
  ·replace c5 := Bool.eq_false_iff.mpr c5
   subst c5
   have H1 : (saronref06_Check.j0 k false a0_0 a0_1 a0_2 l0_3) = some r := by rw [if_neg (show ¬ (false = true) by decide)] at H; exact H
   clear H
   have H := H1
   clear H1
   have H' := zh H
   clear H
   have hcz16_0 : w3.cell? ⟨gb115, 0, none⟩ = some (.int .i64 a0_0) := vb BK115 0
   have hcz16_1 : w3.cell? ⟨gb115, 1, none⟩ = some (.int .i64 a0_1) := vb BK115 1
   have hcz16_2 : w3.cell? ⟨gb115, 2, none⟩ = some (.int .i64 a0_2) := vb BK115 2
   have hcz16_3 : w3.cell? ⟨gb115, 3, none⟩ = some (.slice A0_3 l0_3.length c0_3) := vb BK115 3
   have hfz16_0 := blk_frozen BK115.out 0
   have hfz16_1 := blk_frozen BK115.out 1
   have hfz16_2 := blk_frozen BK115.out 2
   have hfz16_3 := blk_frozen BK115.out 3
   go_wp2_with (first | ((with_reducible refine gate_callee (f := 45) rfl ?_); refine goesL_ (some 8) rfl rfl Tryd.func45 zk rfl #[.int .i64 a0_0, .int .i64 2, .int .i64 7] rfl zm ?_; (with_reducible refine (saronref00_Sits.calls a0_0 2 7 false _ A4.out).mono ?_); rintro e w' ⟨rfl, ⟨nd, rfl⟩⟩; refine ⟨_, rfl, ?_⟩))
   go_meet
   case rel => exact ⟨_, (false), ze, H', ⟨zo1⟩, ⟨zc BK115⟩, ⟨zb⟩⟩
 case rest =>
  clear HC2
  try clear c1
  try clear c2
  try clear p2
  try clear c4
  try clear c5
  try clear c7
  try clear c9
  try clear c10
  try clear c10b0
  try clear c10b1
  try clear hcz12_0
  try clear hcz12_1
  try clear hcz12_2
  try clear hcz12_3
  try clear hcz13_0
  try clear hcz13_1
  try clear hcz13_2
  try clear hcz13_3
  try clear hcz14_0
  try clear hcz14_1
  try clear hcz14_2
  try clear hcz14_3
  try clear hcz15_0
  try clear hcz15_1
  try clear hcz15_2
  try clear hcz15_3
  try clear hcz16_0
  try clear hcz16_1
  try clear hcz16_2
  try clear hcz16_3
  try clear hfz12_0
  try clear hfz12_1
  try clear hfz12_2
  try clear hfz12_3
  try clear hfz13_0
  try clear hfz13_1
  try clear hfz13_2
  try clear hfz13_3
  try clear hfz14_0
  try clear hfz14_1
  try clear hfz14_2
  try clear hfz14_3
  try clear hfz15_0
  try clear hfz15_1
  try clear hfz15_2
  try clear hfz15_3
  try clear hfz16_0
  try clear hfz16_1
  try clear hfz16_2
  try clear hfz16_3
  obtain ⟨kq, x3_1, rfl, HA, HJ1, BK115, HB⟩ := hcut
  cases kq with
  | zero => exact absurd HA.out (by simp [saronref06_Check.j0])
  | succ kj1 =>
   have H := HA.out
   clear HA
   simp only [saronref06_Check.j0] at H
   have H' := zh H
   clear H
   go_wp2
   go_loopg [3, 4] kj1 (fun kq v3 v4 w' => ∃ (x3_2 : Bool) (x4_2 : Int), v3 = .bool x3_2 ∧ v4 = .int .i64 x4_2 ∧ Aside0 (saronref06_Check.l0 kq x3_2 x4_2 a0_0 a0_1 a0_2 l0_3 = some r) ∧ Aside0 (kq ≤ kj1) ∧ Aside0 (w'.heap[gb115]? = some (.cells #[.int .i64 a0_0, .int .i64 a0_1, .int .i64 a0_2, (.slice A0_3 l0_3.length c0_3)] 24 (0, 0))) ∧ Aside0 (Below w.heap.size w w'))
   case atStart => exact ⟨(x3_1), (0), ze, ze, H', ⟨Nat.le_refl _⟩, ⟨zc BK115⟩, ⟨zb⟩⟩
   case round =>
    clear H'
    try clear c1
    try clear c2
    try clear p2
    try clear c4
    try clear c5
    try clear c7
    try clear c9
    try clear c10
    try clear c10b0
    try clear c10b1
    try clear hcz12_0
    try clear hcz12_1
    try clear hcz12_2
    try clear hcz12_3
    try clear hcz13_0
    try clear hcz13_1
    try clear hcz13_2
    try clear hcz13_3
    try clear hcz14_0
    try clear hcz14_1
    try clear hcz14_2
    try clear hcz14_3
    try clear hcz15_0
    try clear hcz15_1
    try clear hcz15_2
    try clear hcz15_3
    try clear hcz16_0
    try clear hcz16_1
    try clear hcz16_2
    try clear hcz16_3
    try clear hfz12_0
    try clear hfz12_1
    try clear hfz12_2
    try clear hfz12_3
    try clear hfz13_0
    try clear hfz13_1
    try clear hfz13_2
    try clear hfz13_3
    try clear hfz14_0
    try clear hfz14_1
    try clear hfz14_2
    try clear hfz14_3
    try clear hfz15_0
    try clear hfz15_1
    try clear hfz15_2
    try clear hfz15_3
    try clear hfz16_0
    try clear hfz16_1
    try clear hfz16_2
    try clear hfz16_3
    try clear p2
    obtain ⟨x3_2, x4_2, rfl, rfl, HA, HK2, BK115, HB⟩ := hrel
    cases gk with
    | zero => exact absurd HA.out (by simp [saronref06_Check.l0])
    | succ k2 =>
     have H := HA.out
     clear HA
     simp only [saronref06_Check.l0] at H
     have HC17 := zh H
     clear H
     go_upto_region 3 with (fail)
     go_cut [38] (fun v38 wc => ∃ (kq : Nat) (x38_16 : Bool), v38 = .bool x38_16 ∧ Aside0 (saronref06_Check.j2 kq x3_2 x4_2 x38_16 a0_0 a0_1 a0_2 l0_3 = some r) ∧ Aside0 (kq ≤ k2) ∧ Aside0 (wc.heap[gb115]? = some (.cells #[.int .i64 a0_0, .int .i64 a0_1, .int .i64 a0_2, (.slice A0_3 l0_3.length c0_3)] 24 (0, 0))) ∧ Aside0 (Below w.heap.size w wc))
     case first =>
      have H := HC17.out
      clear HC17
      by_cases c18 : x3_2 = true
      ·subst c18
       have H1 : (saronref06_Check.j2 k2 true x4_2 (decide (x4_2 < (l0_3.length : Int))) a0_0 a0_1 a0_2 l0_3) = some r := by rw [if_pos rfl] at H; exact H
       clear H
       have H := H1
       clear H1
       have H' := zh H
       clear H
       have hcz19_0 : wr.cell? ⟨gb115, 0, none⟩ = some (.int .i64 a0_0) := vb BK115 0
       have hcz19_1 : wr.cell? ⟨gb115, 1, none⟩ = some (.int .i64 a0_1) := vb BK115 1
       have hcz19_2 : wr.cell? ⟨gb115, 2, none⟩ = some (.int .i64 a0_2) := vb BK115 2
       have hcz19_3 : wr.cell? ⟨gb115, 3, none⟩ = some (.slice A0_3 l0_3.length c0_3) := vb BK115 3
       have hfz19_0 := blk_frozen BK115.out 0
       have hfz19_1 := blk_frozen BK115.out 1
       have hfz19_2 := blk_frozen BK115.out 2
       have hfz19_3 := blk_frozen BK115.out 3
       go_wp2
       go_meet
       case rel => exact ⟨_, (decide (x4_2 < (l0_3.length : Int))), ze, H', ⟨by have := HJ1.out; have := HK2.out; first | omega | exact Nat.le_refl _⟩, ⟨zc BK115⟩, ⟨zb⟩⟩
      ·replace c18 := Bool.eq_false_iff.mpr c18
       subst c18
       have H1 : (saronref06_Check.j2 k2 false x4_2 false a0_0 a0_1 a0_2 l0_3) = some r := by rw [if_neg (show ¬ (false = true) by decide)] at H; exact H
       clear H
       have H := H1
       clear H1
       have H' := zh H
       clear H
       go_wp2
       go_meet
       case rel => exact ⟨_, (false), ze, H', ⟨by have := HJ1.out; have := HK2.out; first | omega | exact Nat.le_refl _⟩, ⟨zc BK115⟩, ⟨zb⟩⟩
     case rest =>
      clear HC17
      try clear c1
      try clear c2
      try clear p2
      try clear c4
      try clear c5
      try clear c7
      try clear c9
      try clear c10
      try clear c10b0
      try clear c10b1
      try clear c18
      try clear hcz12_0
      try clear hcz12_1
      try clear hcz12_2
      try clear hcz12_3
      try clear hcz13_0
      try clear hcz13_1
      try clear hcz13_2
      try clear hcz13_3
      try clear hcz14_0
      try clear hcz14_1
      try clear hcz14_2
      try clear hcz14_3
      try clear hcz15_0
      try clear hcz15_1
      try clear hcz15_2
      try clear hcz15_3
      try clear hcz16_0
      try clear hcz16_1
      try clear hcz16_2
      try clear hcz16_3
      try clear hcz19_0
      try clear hcz19_1
      try clear hcz19_2
      try clear hcz19_3
      try clear hfz12_0
      try clear hfz12_1
      try clear hfz12_2
      try clear hfz12_3
      try clear hfz13_0
      try clear hfz13_1
      try clear hfz13_2
      try clear hfz13_3
      try clear hfz14_0
      try clear hfz14_1
      try clear hfz14_2
      try clear hfz14_3
      try clear hfz15_0
      try clear hfz15_1
      try clear hfz15_2
      try clear hfz15_3
      try clear hfz16_0
      try clear hfz16_1
      try clear hfz16_2
      try clear hfz16_3
      try clear hfz19_0
      try clear hfz19_1
      try clear hfz19_2
      try clear hfz19_3
      try clear p2
      obtain ⟨kq, x38_16, rfl, HA, HJ16, BK115, HB⟩ := hcut
      cases kq with
      | zero => exact absurd HA.out (by simp [saronref06_Check.j2])
      | succ kj16 =>
       have H := HA.out
       clear HA
       simp only [saronref06_Check.j2] at H
       by_cases c20 : x38_16 = true
       ·subst c20
        have H1 : (if 0 ≤ x4_2 then (if x4_2 < (l0_3.length : Int) then ((saronref00_Sits.f ((rd_T66 l0_3 x4_2).f0) 0 4).bind fun t122 => (if t122 = true then ((saronref00_Band.f ((rd_T66 l0_3 x4_2).f1) ((rd_T66 l0_3 x4_2).f2)).bind fun bt123 => ((saronref06_tones.f a0_0 a0_1 a0_2 l0_3).bind fun t125 => ((saronref00_Good.f bt123.1 bt123.2 0 (wrap64 (t125 - 1))).bind fun t126 => (if t126 = true then ((saronref00_Sits.f ((rd_T66 l0_3 x4_2).f3) (-6) 6).bind fun t127 => (saronref06_Check.l0 kj16 t127 (wrap64 (x4_2 + 1)) a0_0 a0_1 a0_2 l0_3)) else (saronref06_Check.l0 kj16 false (wrap64 (x4_2 + 1)) a0_0 a0_1 a0_2 l0_3))))) else (saronref06_Check.l0 kj16 false (wrap64 (x4_2 + 1)) a0_0 a0_1 a0_2 l0_3))) else (none)) else (none)) = some r := by rw [if_pos rfl] at H; exact H
        clear H
        have H := H1
        clear H1
        by_cases c21 : 0 ≤ x4_2
        ·rw [if_pos c21] at H
         have c21b0 : decide (0 ≤ x4_2) = true := decide_eq_true c21
         clear c21
         by_cases c22 : x4_2 < (l0_3.length : Int)
         ·rw [if_pos c22] at H
          have c22b0 : decide (x4_2 < (l0_3.length : Int)) = true := decide_eq_true c22
          clear c22
          replace H := Option.bind_eq_some_iff.mp H
          obtain ⟨t122, A230, H⟩ := H
          replace H : (if t122 = true then ((saronref00_Band.f ((rd_T66 l0_3 x4_2).f1) ((rd_T66 l0_3 x4_2).f2)).bind fun bt123 => ((saronref06_tones.f a0_0 a0_1 a0_2 l0_3).bind fun t125 => ((saronref00_Good.f bt123.1 bt123.2 0 (wrap64 (t125 - 1))).bind fun t126 => (if t126 = true then ((saronref00_Sits.f ((rd_T66 l0_3 x4_2).f3) (-6) 6).bind fun t127 => (saronref06_Check.l0 kj16 t127 (wrap64 (x4_2 + 1)) a0_0 a0_1 a0_2 l0_3)) else (saronref06_Check.l0 kj16 false (wrap64 (x4_2 + 1)) a0_0 a0_1 a0_2 l0_3))))) else (saronref06_Check.l0 kj16 false (wrap64 (x4_2 + 1)) a0_0 a0_1 a0_2 l0_3)) = some r := H
          have A23 := zh A230
          clear A230
          by_cases c24 : t122 = true
          ·subst c24
           have H1 : ((saronref00_Band.f ((rd_T66 l0_3 x4_2).f1) ((rd_T66 l0_3 x4_2).f2)).bind fun bt123 => ((saronref06_tones.f a0_0 a0_1 a0_2 l0_3).bind fun t125 => ((saronref00_Good.f bt123.1 bt123.2 0 (wrap64 (t125 - 1))).bind fun t126 => (if t126 = true then ((saronref00_Sits.f ((rd_T66 l0_3 x4_2).f3) (-6) 6).bind fun t127 => (saronref06_Check.l0 kj16 t127 (wrap64 (x4_2 + 1)) a0_0 a0_1 a0_2 l0_3)) else (saronref06_Check.l0 kj16 false (wrap64 (x4_2 + 1)) a0_0 a0_1 a0_2 l0_3))))) = some r := by rw [if_pos rfl] at H; exact H
           clear H
           have H := H1
           clear H1
           replace H := Option.bind_eq_some_iff.mp H
           obtain ⟨⟨t123, t124⟩, A250, H⟩ := H
           replace H : ((saronref06_tones.f a0_0 a0_1 a0_2 l0_3).bind fun t125 => ((saronref00_Good.f t123 t124 0 (wrap64 (t125 - 1))).bind fun t126 => (if t126 = true then ((saronref00_Sits.f ((rd_T66 l0_3 x4_2).f3) (-6) 6).bind fun t127 => (saronref06_Check.l0 kj16 t127 (wrap64 (x4_2 + 1)) a0_0 a0_1 a0_2 l0_3)) else (saronref06_Check.l0 kj16 false (wrap64 (x4_2 + 1)) a0_0 a0_1 a0_2 l0_3)))) = some r := H
           have A25 := zh A250
           clear A250
           replace H := Option.bind_eq_some_iff.mp H
           obtain ⟨t125, A260, H⟩ := H
           replace H : ((saronref00_Good.f t123 t124 0 (wrap64 (t125 - 1))).bind fun t126 => (if t126 = true then ((saronref00_Sits.f ((rd_T66 l0_3 x4_2).f3) (-6) 6).bind fun t127 => (saronref06_Check.l0 kj16 t127 (wrap64 (x4_2 + 1)) a0_0 a0_1 a0_2 l0_3)) else (saronref06_Check.l0 kj16 false (wrap64 (x4_2 + 1)) a0_0 a0_1 a0_2 l0_3))) = some r := H
           have A26 := zh A260
           clear A260
           replace H := Option.bind_eq_some_iff.mp H
           obtain ⟨t126, A270, H⟩ := H
           replace H : (if t126 = true then ((saronref00_Sits.f ((rd_T66 l0_3 x4_2).f3) (-6) 6).bind fun t127 => (saronref06_Check.l0 kj16 t127 (wrap64 (x4_2 + 1)) a0_0 a0_1 a0_2 l0_3)) else (saronref06_Check.l0 kj16 false (wrap64 (x4_2 + 1)) a0_0 a0_1 a0_2 l0_3)) = some r := H
           have A27 := zh A270
           clear A270
           by_cases c28 : t126 = true
           ·subst c28
            have H1 : ((saronref00_Sits.f ((rd_T66 l0_3 x4_2).f3) (-6) 6).bind fun t127 => (saronref06_Check.l0 kj16 t127 (wrap64 (x4_2 + 1)) a0_0 a0_1 a0_2 l0_3)) = some r := by rw [if_pos rfl] at H; exact H
            clear H
            have H := H1
            clear H1
            replace H := Option.bind_eq_some_iff.mp H
            obtain ⟨t127, A290, H⟩ := H
            replace H : (saronref06_Check.l0 kj16 t127 (wrap64 (x4_2 + 1)) a0_0 a0_1 a0_2 l0_3) = some r := H
            have A29 := zh A290
            clear A290
            have H' := zh H
            clear H
            have hcz30_0 : wc.cell? ⟨gb115, 0, none⟩ = some (.int .i64 a0_0) := vb BK115 0
            have hcz30_1 : wc.cell? ⟨gb115, 1, none⟩ = some (.int .i64 a0_1) := vb BK115 1
            have hcz30_2 : wc.cell? ⟨gb115, 2, none⟩ = some (.int .i64 a0_2) := vb BK115 2
            have hcz30_3 : wc.cell? ⟨gb115, 3, none⟩ = some (.slice A0_3 l0_3.length c0_3) := vb BK115 3
            have hfz30_0 := blk_frozen BK115.out 0
            have hfz30_1 := blk_frozen BK115.out 1
            have hfz30_2 := blk_frozen BK115.out 2
            have hfz30_3 := blk_frozen BK115.out 3
            have p120 : 0 ≤ (x4_2 : Int) := of_decide_eq_true zs
            have q120 : x4_2 < (l0_3.length : Int) := of_decide_eq_true zs
            obtain ⟨ad120, e120, hx120_0, hx120_1, hx120_2, hx120_3⟩ := at_T66 HR0_3.out x4_2 p120 q120
            cases e120
            replace hx120_0 := ve HB.out hx120_0
            replace hx120_1 := ve HB.out hx120_1
            replace hx120_2 := ve HB.out hx120_2
            replace hx120_3 := ve HB.out hx120_3
            replace p120 := eq_true p120
            replace q120 := eq_true q120
            try go_wp2_with (first | ((with_reducible refine gate_dst (N := 5) rfl ?_); (try (refine gate_guard (by rfl) ?_; dsimp only)); refine box_event ?hg (N := 5) ?hd (cs := #[.int .i64 0, .int .i64 0, .int .i64 0, .int .i64 0]) (t := 66) ?hr ?_; (case hd => rfl); (case hg => rfl); (case hr => first | (go_simp; done) | (go_simp; rfl)); intro gb121 hg w31 hbox hb; have n0_ := zh (blk_below (g := gb115) (o := .cells #[.int .i64 a0_0, .int .i64 a0_1, .int .i64 a0_2, .slice (some ad120) l0_3.length c0_3] 24 (0, 0)) (zc BK115) hb); have n1_ := zh (below_step zb hb); have n2_ := zh (hbox); have n3_ := zh ((by rw [hg]; exact (below_size zb) : w.heap.size ≤ gb121)); have n4_ := zh ((by rw [hg]; exact (below_size zb) : w.heap.size ≤ gb121)); have n5_ := zh ((by rw [hg]; exact Nat.ne_of_lt (blk_lt (g := gb115) (o := .cells #[.int .i64 a0_0, .int .i64 a0_1, .int .i64 a0_2, .slice (some ad120) l0_3.length c0_3] 24 (0, 0)) (zc BK115)) : gb115 ≠ gb121)); have n6_ := zh ((by rw [hg]; exact Nat.ne_of_gt (blk_lt (g := gb115) (o := .cells #[.int .i64 a0_0, .int .i64 a0_1, .int .i64 a0_2, .slice (some ad120) l0_3.length c0_3] 24 (0, 0)) (zc BK115)) : gb121 ≠ gb115)); clear BK115; clear HB; have BK115 := n0_; have HB := n1_; have BK121 := n2_; have GW121 := n3_; have GE121 := n4_; have NB115_121 := n5_; have NB121_115 := n6_; clear n0_ n1_ n2_ n3_ n4_ n5_ n6_; clear hb hbox hg; have hnb32 := NB121_115.out; have hnc32 := NB115_121.out; have hcz33_0 : w31.cell? ⟨gb121, 0, none⟩ = some (.int .i64 0) := vb BK121 0; have hcz33_1 : w31.cell? ⟨gb121, 1, none⟩ = some (.int .i64 0) := vb BK121 1; have hcz33_2 : w31.cell? ⟨gb121, 2, none⟩ = some (.int .i64 0) := vb BK121 2; have hcz33_3 : w31.cell? ⟨gb121, 3, none⟩ = some (.int .i64 0) := vb BK121 3; have hfz33_0 := blk_frozen BK121.out 0; have hfz33_1 := blk_frozen BK121.out 1; have hfz33_2 := blk_frozen BK121.out 2; have hfz33_3 := blk_frozen BK121.out 3))
            have n0_ : Aside0 (((((w31.setCell ⟨gb121, 0, none⟩ (.int .i64 ((rd_T66 l0_3 x4_2).f0))).setCell ⟨gb121, 1, none⟩ (.int .i64 ((rd_T66 l0_3 x4_2).f1))).setCell ⟨gb121, 2, none⟩ (.int .i64 ((rd_T66 l0_3 x4_2).f2))).setCell ⟨gb121, 3, none⟩ (.int .i64 ((rd_T66 l0_3 x4_2).f3))).heap[gb115]? = some (.cells #[.int .i64 a0_0, .int .i64 a0_1, .int .i64 a0_2, .slice (some ad120) l0_3.length c0_3] 24 (0, 0))) := ⟨by (with_reducible repeat (first | refine blk_drewN ?_ _ | refine blk_drew ?_ | refine blk_alloc ?_ _)); refine blk_far ?_ NB115_121.out _; (with_reducible repeat (first | refine blk_drewN ?_ _ | refine blk_drew ?_ | refine blk_alloc ?_ _)); refine blk_far ?_ NB115_121.out _; (with_reducible repeat (first | refine blk_drewN ?_ _ | refine blk_drew ?_ | refine blk_alloc ?_ _)); refine blk_far ?_ NB115_121.out _; (with_reducible repeat (first | refine blk_drewN ?_ _ | refine blk_drew ?_ | refine blk_alloc ?_ _)); refine blk_far ?_ NB115_121.out _; (with_reducible repeat (first | refine blk_drewN ?_ _ | refine blk_drew ?_ | refine blk_alloc ?_ _)); exact BK115.out⟩
            have n1_ : Aside0 (((((w31.setCell ⟨gb121, 0, none⟩ (.int .i64 ((rd_T66 l0_3 x4_2).f0))).setCell ⟨gb121, 1, none⟩ (.int .i64 ((rd_T66 l0_3 x4_2).f1))).setCell ⟨gb121, 2, none⟩ (.int .i64 ((rd_T66 l0_3 x4_2).f2))).setCell ⟨gb121, 3, none⟩ (.int .i64 ((rd_T66 l0_3 x4_2).f3))).heap[gb121]? = some (.cells #[.int .i64 ((rd_T66 l0_3 x4_2).f0), .int .i64 ((rd_T66 l0_3 x4_2).f1), .int .i64 ((rd_T66 l0_3 x4_2).f2), .int .i64 ((rd_T66 l0_3 x4_2).f3)] 66 (0, 0))) := ⟨by (with_reducible repeat (first | refine blk_drewN ?_ _ | refine blk_drew ?_ | refine blk_alloc ?_ _)); refine blk_put (cs := #[.int .i64 ((rd_T66 l0_3 x4_2).f0), .int .i64 ((rd_T66 l0_3 x4_2).f1), .int .i64 ((rd_T66 l0_3 x4_2).f2), .int .i64 0]) ?_ 3 _ rfl; (with_reducible repeat (first | refine blk_drewN ?_ _ | refine blk_drew ?_ | refine blk_alloc ?_ _)); refine blk_put (cs := #[.int .i64 ((rd_T66 l0_3 x4_2).f0), .int .i64 ((rd_T66 l0_3 x4_2).f1), .int .i64 0, .int .i64 0]) ?_ 2 _ rfl; (with_reducible repeat (first | refine blk_drewN ?_ _ | refine blk_drew ?_ | refine blk_alloc ?_ _)); refine blk_put (cs := #[.int .i64 ((rd_T66 l0_3 x4_2).f0), .int .i64 0, .int .i64 0, .int .i64 0]) ?_ 1 _ rfl; (with_reducible repeat (first | refine blk_drewN ?_ _ | refine blk_drew ?_ | refine blk_alloc ?_ _)); refine blk_put (cs := #[.int .i64 0, .int .i64 0, .int .i64 0, .int .i64 0]) ?_ 0 _ rfl; (with_reducible repeat (first | refine blk_drewN ?_ _ | refine blk_drew ?_ | refine blk_alloc ?_ _)); exact BK121.out⟩
            have n2_ : Aside0 (Below w.heap.size w ((((w31.setCell ⟨gb121, 0, none⟩ (.int .i64 ((rd_T66 l0_3 x4_2).f0))).setCell ⟨gb121, 1, none⟩ (.int .i64 ((rd_T66 l0_3 x4_2).f1))).setCell ⟨gb121, 2, none⟩ (.int .i64 ((rd_T66 l0_3 x4_2).f2))).setCell ⟨gb121, 3, none⟩ (.int .i64 ((rd_T66 l0_3 x4_2).f3)))) := ⟨zb⟩
            (try clear BK115)
            (try clear BK121)
            (try clear HB)
            generalize ((((w31.setCell ⟨gb121, 0, none⟩ (.int .i64 ((rd_T66 l0_3 x4_2).f0))).setCell ⟨gb121, 1, none⟩ (.int .i64 ((rd_T66 l0_3 x4_2).f1))).setCell ⟨gb121, 2, none⟩ (.int .i64 ((rd_T66 l0_3 x4_2).f2))).setCell ⟨gb121, 3, none⟩ (.int .i64 ((rd_T66 l0_3 x4_2).f3))) = w34 at n0_ n1_ n2_ ⊢
            have BK115 := n0_
            have BK121 := n1_
            have HB := n2_
            clear n0_ n1_ n2_
            replace BK115 := zh (blk_drew BK115.out)
            replace BK121 := zh (blk_drew BK121.out)
            replace HB := zh (below_drew1 HB.out)
            refine start_ (n := 20) (S := fun w' => w'.cell? ⟨gb121, 0, none⟩ = some (.int .i64 ((rd_T66 l0_3 x4_2).f0)) ∧ w'.cell? ⟨gb121, 1, none⟩ = some (.int .i64 ((rd_T66 l0_3 x4_2).f1)) ∧ w'.cell? ⟨gb121, 2, none⟩ = some (.int .i64 ((rd_T66 l0_3 x4_2).f2)) ∧ w'.cell? ⟨gb121, 3, none⟩ = some (.int .i64 ((rd_T66 l0_3 x4_2).f3)) ∧ w'.cell? ⟨gb115, 0, none⟩ = some (.int .i64 a0_0) ∧ w'.cell? ⟨gb115, 1, none⟩ = some (.int .i64 a0_1) ∧ w'.cell? ⟨gb115, 2, none⟩ = some (.int .i64 a0_2) ∧ w'.cell? ⟨gb115, 3, none⟩ = some (.slice (some ad120) l0_3.length c0_3)) (ds := []) (Array.replicate 20 false) zk rfl rfl ⟨vb BK121 0, vb BK121 1, vb BK121 2, vb BK121 3, vb BK115 0, vb BK115 1, vb BK115 2, vb BK115 3⟩ (fun hHeld => ?_); refine with_tabW saronref06_Check.tab6 saronref06_Check.bits6 (fun HT_ HW_ => ?_)
            generalize w34.drew = w35 at BK115 BK121 HB hHeld ⊢
            refine zu 0 ?_
            refine zt 1 ?_
            refine zo 2 (fun K hK => ?_)
            refine goes_ Tryd.func45 zk rfl #[.int .i64 ((rd_T66 l0_3 x4_2).f0), .int .i64 0, .int .i64 4] (by rfl) rfl rfl zm ?_
            with_reducible refine (saronref00_Sits.calls ((rd_T66 l0_3 x4_2).f0) 0 4 true _ A23.out).mono ?_
            rintro e w' ⟨rfl, ⟨nd, rfl⟩⟩
            refine ⟨_, rfl, ?_⟩
            refine hK.out _ _ ⟨vb BK121 0, vb BK121 1, vb BK121 2, vb BK121 3, vb BK115 0, vb BK115 1, vb BK115 2, vb BK115 3⟩ (fun hHeld => ?_)
            clear hK K
            refine zr 48 _ ?_
            refine zu 3 ?_
            refine zu 4 ?_
            refine zu 6 ?_
            refine zt 5 ?_
            refine zt 7 ?_
            refine zt 9 ?_
            refine zo 8 (fun K hK => ?_)
            refine goes_ Tryd.func61 zk rfl #[.int .i64 ((rd_T66 l0_3 x4_2).f1), .int .i64 ((rd_T66 l0_3 x4_2).f2)] (by rfl) rfl rfl zm ?_
            with_reducible refine (saronref00_Band.calls ((rd_T66 l0_3 x4_2).f1) ((rd_T66 l0_3 x4_2).f2) t123 t124 _ A25.out).mono ?_
            rintro e w36 ⟨rfl, hb⟩
            refine ⟨_, rfl, ?_⟩
            replace BK115 := zh (blk_below (g := gb115) (o := .cells #[.int .i64 a0_0, .int .i64 a0_1, .int .i64 a0_2, .slice (some ad120) l0_3.length c0_3] 24 (0, 0)) (zc BK115) hb)
            replace BK121 := zh (blk_below (g := gb121) (o := .cells #[.int .i64 ((rd_T66 l0_3 x4_2).f0), .int .i64 ((rd_T66 l0_3 x4_2).f1), .int .i64 ((rd_T66 l0_3 x4_2).f2), .int .i64 ((rd_T66 l0_3 x4_2).f3)] 66 (0, 0)) (zc BK121) hb)
            replace HB := zh (below_step zb hb)
            (try clear hb)
            (try clear hb2)
            (try clear hk)
            (try clear hi)
            refine hK.out _ _ ⟨vb BK121 0, vb BK121 1, vb BK121 2, vb BK121 3, vb BK115 0, vb BK115 1, vb BK115 2, vb BK115 3⟩ (fun hHeld => ?_)
            clear hK K
            refine zr 54 _ ?_
            refine zo 10 (fun K hK => ?_)
            refine goes_ Tryd.func58 zk rfl #[.agg #[.int .i64 a0_0, .int .i64 a0_1, .int .i64 a0_2, .slice (some ad120) l0_3.length c0_3]] (by rfl) rfl rfl zm ?_
            with_reducible refine (saronref06_tones.calls a0_0 a0_1 a0_2 _ _ l0_3 t125 _ ?side1 ?side2 A26.out).mono ?_
            (case side1 => repeat (first | exact (Kd.C_below HR0_3.out HB.out) | (with_reducible refine Kd.C_alloc ?_ _) | (with_reducible refine Kd.C_drewN ?_ _) | (with_reducible refine Kd.C_drew ?_)))
            (case side2 => exact HC0_3.out)
            rintro e w37 ⟨rfl, hb⟩
            refine ⟨_, rfl, ?_⟩
            replace BK115 := zh (blk_below (g := gb115) (o := .cells #[.int .i64 a0_0, .int .i64 a0_1, .int .i64 a0_2, .slice (some ad120) l0_3.length c0_3] 24 (0, 0)) (zc BK115) hb)
            replace BK121 := zh (blk_below (g := gb121) (o := .cells #[.int .i64 ((rd_T66 l0_3 x4_2).f0), .int .i64 ((rd_T66 l0_3 x4_2).f1), .int .i64 ((rd_T66 l0_3 x4_2).f2), .int .i64 ((rd_T66 l0_3 x4_2).f3)] 66 (0, 0)) (zc BK121) hb)
            replace HB := zh (below_step zb hb)
            (try clear hb)
            (try clear hb2)
            (try clear hk)
            (try clear hi)
            refine hK.out _ _ ⟨vb BK121 0, vb BK121 1, vb BK121 2, vb BK121 3, vb BK115 0, vb BK115 1, vb BK115 2, vb BK115 3⟩ (fun hHeld => ?_)
            clear hK K
            refine zr 56 _ ?_
            refine zu 11 ?_
            refine zo 12 (fun K hK => ?_)
            refine goes_ Tryd.func60 zk rfl #[.agg #[.int .i64 t123, .int .i64 t124], .int .i64 0, .int .i64 (wrap64 (t125 - 1))] (by rfl) rfl rfl zm ?_
            with_reducible refine (saronref00_Good.calls t123 t124 0 (wrap64 (t125 - 1)) true _ A27.out).mono ?_
            rintro e w38 ⟨rfl, hb⟩
            refine ⟨_, rfl, ?_⟩
            replace BK115 := zh (blk_below (g := gb115) (o := .cells #[.int .i64 a0_0, .int .i64 a0_1, .int .i64 a0_2, .slice (some ad120) l0_3.length c0_3] 24 (0, 0)) (zc BK115) hb)
            replace BK121 := zh (blk_below (g := gb121) (o := .cells #[.int .i64 ((rd_T66 l0_3 x4_2).f0), .int .i64 ((rd_T66 l0_3 x4_2).f1), .int .i64 ((rd_T66 l0_3 x4_2).f2), .int .i64 ((rd_T66 l0_3 x4_2).f3)] 66 (0, 0)) (zc BK121) hb)
            replace HB := zh (below_step zb hb)
            (try clear hb)
            (try clear hb2)
            (try clear hk)
            (try clear hi)
            refine hK.out _ _ ⟨vb BK121 0, vb BK121 1, vb BK121 2, vb BK121 3, vb BK115 0, vb BK115 1, vb BK115 2, vb BK115 3⟩ (fun hHeld => ?_)
            clear hK K
            refine zr 58 _ ?_
            refine zu 13 ?_
            refine zu 14 ?_
            refine zu 15 ?_
            refine zt 16 ?_
            refine zo 17 (fun K hK => ?_)
            refine goes_ Tryd.func45 zk rfl #[.int .i64 ((rd_T66 l0_3 x4_2).f3), .int .i64 (-6), .int .i64 6] (by rfl) rfl rfl zm ?_
            with_reducible refine (saronref00_Sits.calls ((rd_T66 l0_3 x4_2).f3) (-6) 6 t127 _ A29.out).mono ?_
            rintro e w' ⟨rfl, ⟨nd, rfl⟩⟩
            refine ⟨_, rfl, ?_⟩
            refine hK.out _ _ ⟨vb BK121 0, vb BK121 1, vb BK121 2, vb BK121 3, vb BK115 0, vb BK115 1, vb BK115 2, vb BK115 3⟩ (fun hHeld => ?_)
            clear hK K
            refine zr 63 _ ?_
            refine zu 18 ?_
            refine zu 19 ?_
            refine zd ?_
            try go_wp2
            go_roundg kj16
            case measure => have := HJ1.out; have := HK2.out; have := HJ16.out; omega
            case rel => exact ⟨(t127), (wrap64 (x4_2 + 1)), ze, ze, H', ⟨by have := HJ1.out; have := HK2.out; have := HJ16.out; omega⟩, ⟨zc BK115⟩, ⟨zb⟩⟩
           ·replace c28 := Bool.eq_false_iff.mpr c28
            subst c28
            have H1 : (saronref06_Check.l0 kj16 false (wrap64 (x4_2 + 1)) a0_0 a0_1 a0_2 l0_3) = some r := by rw [if_neg (show ¬ (false = true) by decide)] at H; exact H
            clear H
            have H := H1
            clear H1
            have H' := zh H
            clear H
            have hcz39_0 : wc.cell? ⟨gb115, 0, none⟩ = some (.int .i64 a0_0) := vb BK115 0
            have hcz39_1 : wc.cell? ⟨gb115, 1, none⟩ = some (.int .i64 a0_1) := vb BK115 1
            have hcz39_2 : wc.cell? ⟨gb115, 2, none⟩ = some (.int .i64 a0_2) := vb BK115 2
            have hcz39_3 : wc.cell? ⟨gb115, 3, none⟩ = some (.slice A0_3 l0_3.length c0_3) := vb BK115 3
            have hfz39_0 := blk_frozen BK115.out 0
            have hfz39_1 := blk_frozen BK115.out 1
            have hfz39_2 := blk_frozen BK115.out 2
            have hfz39_3 := blk_frozen BK115.out 3
            have p120 : 0 ≤ (x4_2 : Int) := of_decide_eq_true zs
            have q120 : x4_2 < (l0_3.length : Int) := of_decide_eq_true zs
            obtain ⟨ad120, e120, hx120_0, hx120_1, hx120_2, hx120_3⟩ := at_T66 HR0_3.out x4_2 p120 q120
            cases e120
            replace hx120_0 := ve HB.out hx120_0
            replace hx120_1 := ve HB.out hx120_1
            replace hx120_2 := ve HB.out hx120_2
            replace hx120_3 := ve HB.out hx120_3
            replace p120 := eq_true p120
            replace q120 := eq_true q120
            try go_wp2_with (first | ((with_reducible refine gate_dst (N := 5) rfl ?_); (try (refine gate_guard (by rfl) ?_; dsimp only)); refine box_event ?hg (N := 5) ?hd (cs := #[.int .i64 0, .int .i64 0, .int .i64 0, .int .i64 0]) (t := 66) ?hr ?_; (case hd => rfl); (case hg => rfl); (case hr => first | (go_simp; done) | (go_simp; rfl)); intro gb121 hg w40 hbox hb; have n0_ := zh (blk_below (g := gb115) (o := .cells #[.int .i64 a0_0, .int .i64 a0_1, .int .i64 a0_2, .slice (some ad120) l0_3.length c0_3] 24 (0, 0)) (zc BK115) hb); have n1_ := zh (below_step zb hb); have n2_ := zh (hbox); have n3_ := zh ((by rw [hg]; exact (below_size zb) : w.heap.size ≤ gb121)); have n4_ := zh ((by rw [hg]; exact (below_size zb) : w.heap.size ≤ gb121)); have n5_ := zh ((by rw [hg]; exact Nat.ne_of_lt (blk_lt (g := gb115) (o := .cells #[.int .i64 a0_0, .int .i64 a0_1, .int .i64 a0_2, .slice (some ad120) l0_3.length c0_3] 24 (0, 0)) (zc BK115)) : gb115 ≠ gb121)); have n6_ := zh ((by rw [hg]; exact Nat.ne_of_gt (blk_lt (g := gb115) (o := .cells #[.int .i64 a0_0, .int .i64 a0_1, .int .i64 a0_2, .slice (some ad120) l0_3.length c0_3] 24 (0, 0)) (zc BK115)) : gb121 ≠ gb115)); clear BK115; clear HB; have BK115 := n0_; have HB := n1_; have BK121 := n2_; have GW121 := n3_; have GE121 := n4_; have NB115_121 := n5_; have NB121_115 := n6_; clear n0_ n1_ n2_ n3_ n4_ n5_ n6_; clear hb hbox hg; have hnb41 := NB121_115.out; have hnc41 := NB115_121.out; have hcz42_0 : w40.cell? ⟨gb121, 0, none⟩ = some (.int .i64 0) := vb BK121 0; have hcz42_1 : w40.cell? ⟨gb121, 1, none⟩ = some (.int .i64 0) := vb BK121 1; have hcz42_2 : w40.cell? ⟨gb121, 2, none⟩ = some (.int .i64 0) := vb BK121 2; have hcz42_3 : w40.cell? ⟨gb121, 3, none⟩ = some (.int .i64 0) := vb BK121 3; have hfz42_0 := blk_frozen BK121.out 0; have hfz42_1 := blk_frozen BK121.out 1; have hfz42_2 := blk_frozen BK121.out 2; have hfz42_3 := blk_frozen BK121.out 3))
            have n0_ : Aside0 (((((w40.setCell ⟨gb121, 0, none⟩ (.int .i64 ((rd_T66 l0_3 x4_2).f0))).setCell ⟨gb121, 1, none⟩ (.int .i64 ((rd_T66 l0_3 x4_2).f1))).setCell ⟨gb121, 2, none⟩ (.int .i64 ((rd_T66 l0_3 x4_2).f2))).setCell ⟨gb121, 3, none⟩ (.int .i64 ((rd_T66 l0_3 x4_2).f3))).heap[gb115]? = some (.cells #[.int .i64 a0_0, .int .i64 a0_1, .int .i64 a0_2, .slice (some ad120) l0_3.length c0_3] 24 (0, 0))) := ⟨by (with_reducible repeat (first | refine blk_drewN ?_ _ | refine blk_drew ?_ | refine blk_alloc ?_ _)); refine blk_far ?_ NB115_121.out _; (with_reducible repeat (first | refine blk_drewN ?_ _ | refine blk_drew ?_ | refine blk_alloc ?_ _)); refine blk_far ?_ NB115_121.out _; (with_reducible repeat (first | refine blk_drewN ?_ _ | refine blk_drew ?_ | refine blk_alloc ?_ _)); refine blk_far ?_ NB115_121.out _; (with_reducible repeat (first | refine blk_drewN ?_ _ | refine blk_drew ?_ | refine blk_alloc ?_ _)); refine blk_far ?_ NB115_121.out _; (with_reducible repeat (first | refine blk_drewN ?_ _ | refine blk_drew ?_ | refine blk_alloc ?_ _)); exact BK115.out⟩
            have n1_ : Aside0 (((((w40.setCell ⟨gb121, 0, none⟩ (.int .i64 ((rd_T66 l0_3 x4_2).f0))).setCell ⟨gb121, 1, none⟩ (.int .i64 ((rd_T66 l0_3 x4_2).f1))).setCell ⟨gb121, 2, none⟩ (.int .i64 ((rd_T66 l0_3 x4_2).f2))).setCell ⟨gb121, 3, none⟩ (.int .i64 ((rd_T66 l0_3 x4_2).f3))).heap[gb121]? = some (.cells #[.int .i64 ((rd_T66 l0_3 x4_2).f0), .int .i64 ((rd_T66 l0_3 x4_2).f1), .int .i64 ((rd_T66 l0_3 x4_2).f2), .int .i64 ((rd_T66 l0_3 x4_2).f3)] 66 (0, 0))) := ⟨by (with_reducible repeat (first | refine blk_drewN ?_ _ | refine blk_drew ?_ | refine blk_alloc ?_ _)); refine blk_put (cs := #[.int .i64 ((rd_T66 l0_3 x4_2).f0), .int .i64 ((rd_T66 l0_3 x4_2).f1), .int .i64 ((rd_T66 l0_3 x4_2).f2), .int .i64 0]) ?_ 3 _ rfl; (with_reducible repeat (first | refine blk_drewN ?_ _ | refine blk_drew ?_ | refine blk_alloc ?_ _)); refine blk_put (cs := #[.int .i64 ((rd_T66 l0_3 x4_2).f0), .int .i64 ((rd_T66 l0_3 x4_2).f1), .int .i64 0, .int .i64 0]) ?_ 2 _ rfl; (with_reducible repeat (first | refine blk_drewN ?_ _ | refine blk_drew ?_ | refine blk_alloc ?_ _)); refine blk_put (cs := #[.int .i64 ((rd_T66 l0_3 x4_2).f0), .int .i64 0, .int .i64 0, .int .i64 0]) ?_ 1 _ rfl; (with_reducible repeat (first | refine blk_drewN ?_ _ | refine blk_drew ?_ | refine blk_alloc ?_ _)); refine blk_put (cs := #[.int .i64 0, .int .i64 0, .int .i64 0, .int .i64 0]) ?_ 0 _ rfl; (with_reducible repeat (first | refine blk_drewN ?_ _ | refine blk_drew ?_ | refine blk_alloc ?_ _)); exact BK121.out⟩
            have n2_ : Aside0 (Below w.heap.size w ((((w40.setCell ⟨gb121, 0, none⟩ (.int .i64 ((rd_T66 l0_3 x4_2).f0))).setCell ⟨gb121, 1, none⟩ (.int .i64 ((rd_T66 l0_3 x4_2).f1))).setCell ⟨gb121, 2, none⟩ (.int .i64 ((rd_T66 l0_3 x4_2).f2))).setCell ⟨gb121, 3, none⟩ (.int .i64 ((rd_T66 l0_3 x4_2).f3)))) := ⟨zb⟩
            (try clear BK115)
            (try clear BK121)
            (try clear HB)
            generalize ((((w40.setCell ⟨gb121, 0, none⟩ (.int .i64 ((rd_T66 l0_3 x4_2).f0))).setCell ⟨gb121, 1, none⟩ (.int .i64 ((rd_T66 l0_3 x4_2).f1))).setCell ⟨gb121, 2, none⟩ (.int .i64 ((rd_T66 l0_3 x4_2).f2))).setCell ⟨gb121, 3, none⟩ (.int .i64 ((rd_T66 l0_3 x4_2).f3))) = w43 at n0_ n1_ n2_ ⊢
            have BK115 := n0_
            have BK121 := n1_
            have HB := n2_
            clear n0_ n1_ n2_
            replace BK115 := zh (blk_drew BK115.out)
            replace BK121 := zh (blk_drew BK121.out)
            replace HB := zh (below_drew1 HB.out)
            refine start_ (n := 20) (S := fun w' => w'.cell? ⟨gb121, 0, none⟩ = some (.int .i64 ((rd_T66 l0_3 x4_2).f0)) ∧ w'.cell? ⟨gb121, 1, none⟩ = some (.int .i64 ((rd_T66 l0_3 x4_2).f1)) ∧ w'.cell? ⟨gb121, 2, none⟩ = some (.int .i64 ((rd_T66 l0_3 x4_2).f2)) ∧ w'.cell? ⟨gb121, 3, none⟩ = some (.int .i64 ((rd_T66 l0_3 x4_2).f3)) ∧ w'.cell? ⟨gb115, 0, none⟩ = some (.int .i64 a0_0) ∧ w'.cell? ⟨gb115, 1, none⟩ = some (.int .i64 a0_1) ∧ w'.cell? ⟨gb115, 2, none⟩ = some (.int .i64 a0_2) ∧ w'.cell? ⟨gb115, 3, none⟩ = some (.slice (some ad120) l0_3.length c0_3)) (ds := []) (Array.replicate 20 false) zk rfl rfl ⟨vb BK121 0, vb BK121 1, vb BK121 2, vb BK121 3, vb BK115 0, vb BK115 1, vb BK115 2, vb BK115 3⟩ (fun hHeld => ?_); refine with_tabW saronref06_Check.tab6 saronref06_Check.bits6 (fun HT_ HW_ => ?_)
            generalize w43.drew = w44 at BK115 BK121 HB hHeld ⊢
            refine zu 0 ?_
            refine zt 1 ?_
            refine zo 2 (fun K hK => ?_)
            refine goes_ Tryd.func45 zk rfl #[.int .i64 ((rd_T66 l0_3 x4_2).f0), .int .i64 0, .int .i64 4] (by rfl) rfl rfl zm ?_
            with_reducible refine (saronref00_Sits.calls ((rd_T66 l0_3 x4_2).f0) 0 4 true _ A23.out).mono ?_
            rintro e w' ⟨rfl, ⟨nd, rfl⟩⟩
            refine ⟨_, rfl, ?_⟩
            refine hK.out _ _ ⟨vb BK121 0, vb BK121 1, vb BK121 2, vb BK121 3, vb BK115 0, vb BK115 1, vb BK115 2, vb BK115 3⟩ (fun hHeld => ?_)
            clear hK K
            refine zr 48 _ ?_
            refine zu 3 ?_
            refine zu 4 ?_
            refine zu 6 ?_
            refine zt 5 ?_
            refine zt 7 ?_
            refine zt 9 ?_
            refine zo 8 (fun K hK => ?_)
            refine goes_ Tryd.func61 zk rfl #[.int .i64 ((rd_T66 l0_3 x4_2).f1), .int .i64 ((rd_T66 l0_3 x4_2).f2)] (by rfl) rfl rfl zm ?_
            with_reducible refine (saronref00_Band.calls ((rd_T66 l0_3 x4_2).f1) ((rd_T66 l0_3 x4_2).f2) t123 t124 _ A25.out).mono ?_
            rintro e w45 ⟨rfl, hb⟩
            refine ⟨_, rfl, ?_⟩
            replace BK115 := zh (blk_below (g := gb115) (o := .cells #[.int .i64 a0_0, .int .i64 a0_1, .int .i64 a0_2, .slice (some ad120) l0_3.length c0_3] 24 (0, 0)) (zc BK115) hb)
            replace BK121 := zh (blk_below (g := gb121) (o := .cells #[.int .i64 ((rd_T66 l0_3 x4_2).f0), .int .i64 ((rd_T66 l0_3 x4_2).f1), .int .i64 ((rd_T66 l0_3 x4_2).f2), .int .i64 ((rd_T66 l0_3 x4_2).f3)] 66 (0, 0)) (zc BK121) hb)
            replace HB := zh (below_step zb hb)
            (try clear hb)
            (try clear hb2)
            (try clear hk)
            (try clear hi)
            refine hK.out _ _ ⟨vb BK121 0, vb BK121 1, vb BK121 2, vb BK121 3, vb BK115 0, vb BK115 1, vb BK115 2, vb BK115 3⟩ (fun hHeld => ?_)
            clear hK K
            refine zr 54 _ ?_
            refine zo 10 (fun K hK => ?_)
            refine goes_ Tryd.func58 zk rfl #[.agg #[.int .i64 a0_0, .int .i64 a0_1, .int .i64 a0_2, .slice (some ad120) l0_3.length c0_3]] (by rfl) rfl rfl zm ?_
            with_reducible refine (saronref06_tones.calls a0_0 a0_1 a0_2 _ _ l0_3 t125 _ ?side1 ?side2 A26.out).mono ?_
            (case side1 => repeat (first | exact (Kd.C_below HR0_3.out HB.out) | (with_reducible refine Kd.C_alloc ?_ _) | (with_reducible refine Kd.C_drewN ?_ _) | (with_reducible refine Kd.C_drew ?_)))
            (case side2 => exact HC0_3.out)
            rintro e w46 ⟨rfl, hb⟩
            refine ⟨_, rfl, ?_⟩
            replace BK115 := zh (blk_below (g := gb115) (o := .cells #[.int .i64 a0_0, .int .i64 a0_1, .int .i64 a0_2, .slice (some ad120) l0_3.length c0_3] 24 (0, 0)) (zc BK115) hb)
            replace BK121 := zh (blk_below (g := gb121) (o := .cells #[.int .i64 ((rd_T66 l0_3 x4_2).f0), .int .i64 ((rd_T66 l0_3 x4_2).f1), .int .i64 ((rd_T66 l0_3 x4_2).f2), .int .i64 ((rd_T66 l0_3 x4_2).f3)] 66 (0, 0)) (zc BK121) hb)
            replace HB := zh (below_step zb hb)
            (try clear hb)
            (try clear hb2)
            (try clear hk)
            (try clear hi)
            refine hK.out _ _ ⟨vb BK121 0, vb BK121 1, vb BK121 2, vb BK121 3, vb BK115 0, vb BK115 1, vb BK115 2, vb BK115 3⟩ (fun hHeld => ?_)
            clear hK K
            refine zr 56 _ ?_
            refine zu 11 ?_
            refine zo 12 (fun K hK => ?_)
            refine goes_ Tryd.func60 zk rfl #[.agg #[.int .i64 t123, .int .i64 t124], .int .i64 0, .int .i64 (wrap64 (t125 - 1))] (by rfl) rfl rfl zm ?_
            with_reducible refine (saronref00_Good.calls t123 t124 0 (wrap64 (t125 - 1)) false _ A27.out).mono ?_
            rintro e w47 ⟨rfl, hb⟩
            refine ⟨_, rfl, ?_⟩
            replace BK115 := zh (blk_below (g := gb115) (o := .cells #[.int .i64 a0_0, .int .i64 a0_1, .int .i64 a0_2, .slice (some ad120) l0_3.length c0_3] 24 (0, 0)) (zc BK115) hb)
            replace BK121 := zh (blk_below (g := gb121) (o := .cells #[.int .i64 ((rd_T66 l0_3 x4_2).f0), .int .i64 ((rd_T66 l0_3 x4_2).f1), .int .i64 ((rd_T66 l0_3 x4_2).f2), .int .i64 ((rd_T66 l0_3 x4_2).f3)] 66 (0, 0)) (zc BK121) hb)
            replace HB := zh (below_step zb hb)
            (try clear hb)
            (try clear hb2)
            (try clear hk)
            (try clear hi)
            refine hK.out _ _ ⟨vb BK121 0, vb BK121 1, vb BK121 2, vb BK121 3, vb BK115 0, vb BK115 1, vb BK115 2, vb BK115 3⟩ (fun hHeld => ?_)
            clear hK K
            refine zr 58 _ ?_
            refine zu 13 ?_
            refine zu 14 ?_
            refine zn 15 ?_
            refine zn 16 ?_
            refine zn 17 ?_
            refine zu 18 ?_
            refine zu 19 ?_
            refine zd ?_
            try go_wp2
            go_roundg kj16
            case measure => have := HJ1.out; have := HK2.out; have := HJ16.out; omega
            case rel => exact ⟨(false), (wrap64 (x4_2 + 1)), ze, ze, H', ⟨by have := HJ1.out; have := HK2.out; have := HJ16.out; omega⟩, ⟨zc BK115⟩, ⟨zb⟩⟩
          ·replace c24 := Bool.eq_false_iff.mpr c24
           subst c24
           have H1 : (saronref06_Check.l0 kj16 false (wrap64 (x4_2 + 1)) a0_0 a0_1 a0_2 l0_3) = some r := by rw [if_neg (show ¬ (false = true) by decide)] at H; exact H
           clear H
           have H := H1
           clear H1
           have H' := zh H
           clear H
           have hcz48_0 : wc.cell? ⟨gb115, 0, none⟩ = some (.int .i64 a0_0) := vb BK115 0
           have hcz48_1 : wc.cell? ⟨gb115, 1, none⟩ = some (.int .i64 a0_1) := vb BK115 1
           have hcz48_2 : wc.cell? ⟨gb115, 2, none⟩ = some (.int .i64 a0_2) := vb BK115 2
           have hcz48_3 : wc.cell? ⟨gb115, 3, none⟩ = some (.slice A0_3 l0_3.length c0_3) := vb BK115 3
           have hfz48_0 := blk_frozen BK115.out 0
           have hfz48_1 := blk_frozen BK115.out 1
           have hfz48_2 := blk_frozen BK115.out 2
           have hfz48_3 := blk_frozen BK115.out 3
           have p120 : 0 ≤ (x4_2 : Int) := of_decide_eq_true zs
           have q120 : x4_2 < (l0_3.length : Int) := of_decide_eq_true zs
           obtain ⟨ad120, e120, hx120_0, hx120_1, hx120_2, hx120_3⟩ := at_T66 HR0_3.out x4_2 p120 q120
           cases e120
           replace hx120_0 := ve HB.out hx120_0
           replace hx120_1 := ve HB.out hx120_1
           replace hx120_2 := ve HB.out hx120_2
           replace hx120_3 := ve HB.out hx120_3
           replace p120 := eq_true p120
           replace q120 := eq_true q120
           try go_wp2_with (first | ((with_reducible refine gate_dst (N := 5) rfl ?_); (try (refine gate_guard (by rfl) ?_; dsimp only)); refine box_event ?hg (N := 5) ?hd (cs := #[.int .i64 0, .int .i64 0, .int .i64 0, .int .i64 0]) (t := 66) ?hr ?_; (case hd => rfl); (case hg => rfl); (case hr => first | (go_simp; done) | (go_simp; rfl)); intro gb121 hg w49 hbox hb; have n0_ := zh (blk_below (g := gb115) (o := .cells #[.int .i64 a0_0, .int .i64 a0_1, .int .i64 a0_2, .slice (some ad120) l0_3.length c0_3] 24 (0, 0)) (zc BK115) hb); have n1_ := zh (below_step zb hb); have n2_ := zh (hbox); have n3_ := zh ((by rw [hg]; exact (below_size zb) : w.heap.size ≤ gb121)); have n4_ := zh ((by rw [hg]; exact (below_size zb) : w.heap.size ≤ gb121)); have n5_ := zh ((by rw [hg]; exact Nat.ne_of_lt (blk_lt (g := gb115) (o := .cells #[.int .i64 a0_0, .int .i64 a0_1, .int .i64 a0_2, .slice (some ad120) l0_3.length c0_3] 24 (0, 0)) (zc BK115)) : gb115 ≠ gb121)); have n6_ := zh ((by rw [hg]; exact Nat.ne_of_gt (blk_lt (g := gb115) (o := .cells #[.int .i64 a0_0, .int .i64 a0_1, .int .i64 a0_2, .slice (some ad120) l0_3.length c0_3] 24 (0, 0)) (zc BK115)) : gb121 ≠ gb115)); clear BK115; clear HB; have BK115 := n0_; have HB := n1_; have BK121 := n2_; have GW121 := n3_; have GE121 := n4_; have NB115_121 := n5_; have NB121_115 := n6_; clear n0_ n1_ n2_ n3_ n4_ n5_ n6_; clear hb hbox hg; have hnb50 := NB121_115.out; have hnc50 := NB115_121.out; have hcz51_0 : w49.cell? ⟨gb121, 0, none⟩ = some (.int .i64 0) := vb BK121 0; have hcz51_1 : w49.cell? ⟨gb121, 1, none⟩ = some (.int .i64 0) := vb BK121 1; have hcz51_2 : w49.cell? ⟨gb121, 2, none⟩ = some (.int .i64 0) := vb BK121 2; have hcz51_3 : w49.cell? ⟨gb121, 3, none⟩ = some (.int .i64 0) := vb BK121 3; have hfz51_0 := blk_frozen BK121.out 0; have hfz51_1 := blk_frozen BK121.out 1; have hfz51_2 := blk_frozen BK121.out 2; have hfz51_3 := blk_frozen BK121.out 3))
           have n0_ : Aside0 (((((w49.setCell ⟨gb121, 0, none⟩ (.int .i64 ((rd_T66 l0_3 x4_2).f0))).setCell ⟨gb121, 1, none⟩ (.int .i64 ((rd_T66 l0_3 x4_2).f1))).setCell ⟨gb121, 2, none⟩ (.int .i64 ((rd_T66 l0_3 x4_2).f2))).setCell ⟨gb121, 3, none⟩ (.int .i64 ((rd_T66 l0_3 x4_2).f3))).heap[gb115]? = some (.cells #[.int .i64 a0_0, .int .i64 a0_1, .int .i64 a0_2, .slice (some ad120) l0_3.length c0_3] 24 (0, 0))) := ⟨by (with_reducible repeat (first | refine blk_drewN ?_ _ | refine blk_drew ?_ | refine blk_alloc ?_ _)); refine blk_far ?_ NB115_121.out _; (with_reducible repeat (first | refine blk_drewN ?_ _ | refine blk_drew ?_ | refine blk_alloc ?_ _)); refine blk_far ?_ NB115_121.out _; (with_reducible repeat (first | refine blk_drewN ?_ _ | refine blk_drew ?_ | refine blk_alloc ?_ _)); refine blk_far ?_ NB115_121.out _; (with_reducible repeat (first | refine blk_drewN ?_ _ | refine blk_drew ?_ | refine blk_alloc ?_ _)); refine blk_far ?_ NB115_121.out _; (with_reducible repeat (first | refine blk_drewN ?_ _ | refine blk_drew ?_ | refine blk_alloc ?_ _)); exact BK115.out⟩
           have n1_ : Aside0 (((((w49.setCell ⟨gb121, 0, none⟩ (.int .i64 ((rd_T66 l0_3 x4_2).f0))).setCell ⟨gb121, 1, none⟩ (.int .i64 ((rd_T66 l0_3 x4_2).f1))).setCell ⟨gb121, 2, none⟩ (.int .i64 ((rd_T66 l0_3 x4_2).f2))).setCell ⟨gb121, 3, none⟩ (.int .i64 ((rd_T66 l0_3 x4_2).f3))).heap[gb121]? = some (.cells #[.int .i64 ((rd_T66 l0_3 x4_2).f0), .int .i64 ((rd_T66 l0_3 x4_2).f1), .int .i64 ((rd_T66 l0_3 x4_2).f2), .int .i64 ((rd_T66 l0_3 x4_2).f3)] 66 (0, 0))) := ⟨by (with_reducible repeat (first | refine blk_drewN ?_ _ | refine blk_drew ?_ | refine blk_alloc ?_ _)); refine blk_put (cs := #[.int .i64 ((rd_T66 l0_3 x4_2).f0), .int .i64 ((rd_T66 l0_3 x4_2).f1), .int .i64 ((rd_T66 l0_3 x4_2).f2), .int .i64 0]) ?_ 3 _ rfl; (with_reducible repeat (first | refine blk_drewN ?_ _ | refine blk_drew ?_ | refine blk_alloc ?_ _)); refine blk_put (cs := #[.int .i64 ((rd_T66 l0_3 x4_2).f0), .int .i64 ((rd_T66 l0_3 x4_2).f1), .int .i64 0, .int .i64 0]) ?_ 2 _ rfl; (with_reducible repeat (first | refine blk_drewN ?_ _ | refine blk_drew ?_ | refine blk_alloc ?_ _)); refine blk_put (cs := #[.int .i64 ((rd_T66 l0_3 x4_2).f0), .int .i64 0, .int .i64 0, .int .i64 0]) ?_ 1 _ rfl; (with_reducible repeat (first | refine blk_drewN ?_ _ | refine blk_drew ?_ | refine blk_alloc ?_ _)); refine blk_put (cs := #[.int .i64 0, .int .i64 0, .int .i64 0, .int .i64 0]) ?_ 0 _ rfl; (with_reducible repeat (first | refine blk_drewN ?_ _ | refine blk_drew ?_ | refine blk_alloc ?_ _)); exact BK121.out⟩
           have n2_ : Aside0 (Below w.heap.size w ((((w49.setCell ⟨gb121, 0, none⟩ (.int .i64 ((rd_T66 l0_3 x4_2).f0))).setCell ⟨gb121, 1, none⟩ (.int .i64 ((rd_T66 l0_3 x4_2).f1))).setCell ⟨gb121, 2, none⟩ (.int .i64 ((rd_T66 l0_3 x4_2).f2))).setCell ⟨gb121, 3, none⟩ (.int .i64 ((rd_T66 l0_3 x4_2).f3)))) := ⟨zb⟩
           (try clear BK115)
           (try clear BK121)
           (try clear HB)
           generalize ((((w49.setCell ⟨gb121, 0, none⟩ (.int .i64 ((rd_T66 l0_3 x4_2).f0))).setCell ⟨gb121, 1, none⟩ (.int .i64 ((rd_T66 l0_3 x4_2).f1))).setCell ⟨gb121, 2, none⟩ (.int .i64 ((rd_T66 l0_3 x4_2).f2))).setCell ⟨gb121, 3, none⟩ (.int .i64 ((rd_T66 l0_3 x4_2).f3))) = w52 at n0_ n1_ n2_ ⊢
           have BK115 := n0_
           have BK121 := n1_
           have HB := n2_
           clear n0_ n1_ n2_
           replace BK115 := zh (blk_drew BK115.out)
           replace BK121 := zh (blk_drew BK121.out)
           replace HB := zh (below_drew1 HB.out)
           refine start_ (n := 20) (S := fun w' => w'.cell? ⟨gb121, 0, none⟩ = some (.int .i64 ((rd_T66 l0_3 x4_2).f0)) ∧ w'.cell? ⟨gb121, 1, none⟩ = some (.int .i64 ((rd_T66 l0_3 x4_2).f1)) ∧ w'.cell? ⟨gb121, 2, none⟩ = some (.int .i64 ((rd_T66 l0_3 x4_2).f2)) ∧ w'.cell? ⟨gb121, 3, none⟩ = some (.int .i64 ((rd_T66 l0_3 x4_2).f3))) (ds := []) (Array.replicate 20 false) zk rfl rfl ⟨vb BK121 0, vb BK121 1, vb BK121 2, vb BK121 3⟩ (fun hHeld => ?_); refine with_tabW saronref06_Check.tab6 saronref06_Check.bits6 (fun HT_ HW_ => ?_)
           generalize w52.drew = w53 at BK115 BK121 HB hHeld ⊢
           refine zu 0 ?_
           refine zt 1 ?_
           refine zo 2 (fun K hK => ?_)
           refine goes_ Tryd.func45 zk rfl #[.int .i64 ((rd_T66 l0_3 x4_2).f0), .int .i64 0, .int .i64 4] (by rfl) rfl rfl zm ?_
           with_reducible refine (saronref00_Sits.calls ((rd_T66 l0_3 x4_2).f0) 0 4 false _ A23.out).mono ?_
           rintro e w' ⟨rfl, ⟨nd, rfl⟩⟩
           refine ⟨_, rfl, ?_⟩
           refine hK.out _ _ ⟨vb BK121 0, vb BK121 1, vb BK121 2, vb BK121 3⟩ (fun hHeld => ?_)
           clear hK K
           refine zr 48 _ ?_
           refine zu 3 ?_
           refine zn 4 ?_
           refine zn 5 ?_
           refine zn 6 ?_
           refine zn 7 ?_
           refine zn 8 ?_
           refine zn 9 ?_
           refine zn 10 ?_
           refine zn 11 ?_
           refine zn 12 ?_
           refine zu 13 ?_
           refine zu 14 ?_
           refine zn 15 ?_
           refine zn 16 ?_
           refine zn 17 ?_
           refine zu 18 ?_
           refine zu 19 ?_
           refine zd ?_
           try go_wp2
           go_roundg kj16
           case measure => have := HJ1.out; have := HK2.out; have := HJ16.out; omega
           case rel => exact ⟨(false), (wrap64 (x4_2 + 1)), ze, ze, H', ⟨by have := HJ1.out; have := HK2.out; have := HJ16.out; omega⟩, ⟨zc BK115⟩, ⟨zb⟩⟩
         ·rw [if_neg c22] at H
          exact absurd H (by simp)
        ·rw [if_neg c21] at H
         exact absurd H (by simp)
       ·replace c20 := Bool.eq_false_iff.mpr c20
        subst c20
        have H1 : (if x3_2 = true then (some 0) else (some 60)) = some r := by rw [if_neg (show ¬ (false = true) by decide)] at H; exact H
        clear H
        have H := H1
        clear H1
        by_cases c54 : x3_2 = true
        ·subst c54
         have H1 : (some 0) = some r := by rw [if_pos rfl] at H; exact H
         clear H
         have H := H1
         clear H1
         obtain rfl := Option.some.inj H
         go_wp2
         go_ret
         exact ⟨zf, zb⟩
        ·replace c54 := Bool.eq_false_iff.mpr c54
         subst c54
         have H1 : (some 60) = some r := by rw [if_neg (show ¬ (false = true) by decide)] at H; exact H
         clear H
         have H := H1
         clear H1
         obtain rfl := Option.some.inj H
         go_wp2
         go_ret
         exact ⟨zf, zb⟩
end Go.Proofs.YtagkfkdoibnhfaaDoor.H
end
section
namespace Go.Proofs.YtagkfkdoibnhfaaDoor.K
open Go.RowKit Go.Proofs.YtagkfkdoibnhfaaDoor.H
theorem sits_f (a b c : Int) : saronref00_Sits.f a b c = some (decide (b ≤ a) && decide (a ≤ c)) := by
 unfold saronref00_Sits.f
 by_cases h : b ≤ a <;> simp [h]
theorem good_f (x y a b : Int) : saronref00_Good.f x y a b = some (decide (a ≤ x) && decide (x ≤ y) && decide (y ≤ b)) := by
 unfold saronref00_Good.f
 by_cases h : a ≤ x <;> by_cases h' : x ≤ y <;> simp [h, h']
theorem rcheck_l0 (T O L : Int) (R : List S66) (hR : R.length ≤ 9223372036854775807) :
  ∀ (d k i : Nat) (ok : Bool), R.length - i = d → i ≤ R.length → 2 * d + 2 ≤ k → (ok = true → 2 ≤ T ∧ T ≤ 7 ∧ 1 ≤ O ∧ O ≤ 3) →
   saronref06_Check.l0 k ok (i : Int) T O L R = some (if ok && (R.drop i).all (okReg (T * O)) then 0 else 60)
 | d, k, i, false, hd, hi, hk, h => by
  obtain ⟨k, rfl⟩ : ∃ m, k = m + 2 := ⟨k - 2, by omega⟩
  simp [saronref06_Check.l0, saronref06_Check.j2]
 | 0, k, i, true, hd, hi, hk, h => by
  obtain ⟨k, rfl⟩ : ∃ m, k = m + 2 := ⟨k - 2, by omega⟩
  obtain rfl : i = R.length := by omega
  simp [saronref06_Check.l0, saronref06_Check.j2]
 | d + 1, k, i, true, hd, hi, hk, h => by
  obtain ⟨k, rfl⟩ : ∃ m, k = m + 2 := ⟨k - 2, by omega⟩
  have hlt : i < R.length := by omega
  have e : wrap64 ((i : Int) + 1) = ((i + 1 : Nat) : Int) := by rw [w64 (by omega) (by omega)]; simp
  obtain ⟨t1, t2, t3, t4⟩ := h rfl
  obtain ⟨m1, m2⟩ := mul_range t1 t2 t3 t4
  have ih := fun ok' => rcheck_l0 T O L R hR d k (i + 1) ok' (by omega) (by omega) (by omega) (fun _ => ⟨t1, t2, t3, t4⟩)
  have hdec : decide ((i : Int) < (R.length : Int)) = true := decide_eq_true (by omega)
  simp only [saronref06_Check.l0, saronref06_Check.j2, hdec, if_true]
  rw [if_pos (by omega), if_pos (by omega), e, rd66 R i hlt]
  simp only [sits_f, good_f, saronref00_Band.f, saronref06_tones.f, Option.bind_some, ih]
  rw [w64 (by omega) (by omega : T * O ≤ 9223372036854775807), w64 (by omega) (by omega : T * O - 1 ≤ 9223372036854775807)]
  rw [List.drop_eq_getElem_cons hlt, List.all_cons]
  simp only [okReg, Bool.true_and, Bool.and_assoc]
  generalize hA : (List.drop (i + 1) R).all _ = A
  by_cases a0 : 0 ≤ R[i].f0 <;> by_cases a1 : R[i].f0 ≤ 4 <;> by_cases a2 : 0 ≤ R[i].f1 <;> by_cases a3 : R[i].f1 ≤ R[i].f2 <;> by_cases a4 : 0 ≤ R[i].f2 <;> by_cases a5 : R[i].f2 ≤ T * O - 1 <;> by_cases a6 : -6 ≤ R[i].f3 <;> by_cases a7 : R[i].f3 ≤ 6 <;> first | (exfalso; omega) | simp [a0, a1, a2, a3, a4, a5, a6, a7]
theorem rcheck_f (T O L : Int) (R : List S66) (hR : R.length ≤ 9223372036854775807) (k : Nat) (hk : 2 * R.length + 3 ≤ k) : saronref06_Check.f k T O L R = some (if okScale T O L R then 0 else 60) := by
 obtain ⟨k, rfl⟩ : ∃ m, k = m + 1 := ⟨k - 1, by omega⟩
 have j : ∀ ok, (ok = true → 2 ≤ T ∧ T ≤ 7 ∧ 1 ≤ O ∧ O ≤ 3) → saronref06_Check.j0 (k + 1) ok T O L R = some (if ok && R.all (okReg (T * O)) then 0 else 60) := fun ok h => by
  simp only [saronref06_Check.j0]
  have := rcheck_l0 T O L R hR R.length k 0 ok (by omega) (by omega) (by omega) h
  simpa using this
 have jf := j false (by simp)
 unfold saronref06_Check.f okScale
 simp only [sits_f, Option.bind_some, jf]
 by_cases h1 : 2 ≤ T <;> by_cases h2 : T ≤ 7 <;> by_cases h3 : 1 ≤ O <;> by_cases h4 : O ≤ 3 <;> simp only [h1, h2, h3, h4, decide_true, decide_false, Bool.true_and, Bool.false_and, Bool.and_true, Bool.and_false, if_true, if_false, Bool.false_eq_true]
 by_cases h5 : 2 ≤ L <;> by_cases h6 : L ≤ 16 <;> simp only [h5, h6, decide_true, decide_false, Bool.true_and, Bool.false_and, Bool.and_true, Bool.and_false, if_true, if_false, Bool.false_eq_true]
 by_cases h7 : L % 2 = 0
 ·rw [if_pos ((tmod_zero _ _).2 h7), j _ (fun _ => ⟨h1, h2, h3, h4⟩)]
  have e1 : decide ((1 : Int) ≤ (R.length : Int)) = decide (1 ≤ R.length) := by rw [decide_eq_decide]; omega
  have e2 : decide ((R.length : Int) ≤ 5) = decide (R.length ≤ 5) := by rw [decide_eq_decide]; omega
  rw [e1, e2]
  simp [h7]
 ·rw [if_neg (fun e => h7 ((tmod_zero _ _).1 e))]
  simp [h7]
end Go.Proofs.YtagkfkdoibnhfaaDoor.K
end
section
namespace Go.Proofs.YtagkfkdoibnhfaaDoor.H
open Go.RowKit Go.Proofs.YtagkfkdoibnhfaaDoorW.PrintWords Go.Proofs.YtagkfkdoibnhfaaDoorW.PrintLast Go.Proofs.YtagkfkdoibnhfaaDoorW.PrintMore
attribute [local go_sem] max2_int min2_int max_two min_two max_three min_three max_four min_four   -- for this text's walks alone
set_option linter.unusedVariables false
set_option linter.unusedSimpArgs false
def saronref06_plays.l0 : Nat → Int → Int → Int → Int → Int → List (S66) → Int → Int → Int → Int → Option (Int)
 | 0, _, _, _, _, _, _, _, _, _, _ => none
 | k + 1, x2, x7, x129000, x129001, x129002, x129003, x130000, x130001, x130002, x130003 => if x7 ≤ x130002 then ((saronref00_Turn.f (wrap64 (x7 - x2)) x129000).bind fun t131 => (if t131 = 0 then (some x7) else (saronref06_plays.l0 k x2 (wrap64 (x7 + 1)) x129000 x129001 x129002 x129003 x130000 x130001 x130002 x130003))) else (some (-1))
def saronref06_plays.f (k : Nat) (a0_0 : Int) (a0_1 : Int) (a0_2 : Int) (l0_3 : List (S66)) (a1_0 : Int) (a1_1 : Int) (a1_2 : Int) (a1_3 : Int) (a2 : Int) : Option (Int) := (saronref00_Sits.f a2 a1_1 a1_2).bind fun t130 => (if t130 = true then (some a2) else (saronref06_plays.l0 k a2 a1_1 a0_0 a0_1 a0_2 l0_3 a1_0 a1_1 a1_2 a1_3))
set_option maxHeartbeats 8000000 in
set_option maxRecDepth 100000 in
theorem saronref06_plays.calls (k : Nat) (a0_0 : Int) (a0_1 : Int) (a0_2 : Int) (A0_3 : Option Addr) (c0_3 : Nat) (l0_3 : List (S66)) (a1_0 : Int) (a1_1 : Int) (a1_2 : Int) (a1_3 : Int) (a2 : Int) (r : Int) (w : World) (hr0_3 : Kd.C k66 w A0_3 l0_3.length l0_3) (hc0_3 : l0_3.length ≤ c0_3) (h : saronref06_plays.f k a0_0 a0_1 a0_2 l0_3 a1_0 a1_1 a1_2 a1_3 a2 = some r) :
  Calls Tryd.prog 90 #[.agg #[.int .i64 a0_0, .int .i64 a0_1, .int .i64 a0_2, .slice A0_3 l0_3.length c0_3], .agg #[.int .i64 a1_0, .int .i64 a1_1, .int .i64 a1_2, .int .i64 a1_3], .int .i64 a2] w fun e w' => e = .returned (.int .i64 r) ∧ Below w.heap.size w w' := by
 have hu24 := Tryd.underlying24
 have hu66 := Tryd.underlying66
 have HR0_3 := zh hr0_3
 have HC0_3 := zh hc0_3
 clear hr0_3 hc0_3
 have HB := zh (Below.refl w.heap.size w)
 have H : ((saronref00_Sits.f a2 a1_1 a1_2).bind fun t130 => (if t130 = true then (some a2) else (saronref06_plays.l0 k a2 a1_1 a0_0 a0_1 a0_2 l0_3 a1_0 a1_1 a1_2 a1_3))) = some r := h
 clear h
 replace H := Option.bind_eq_some_iff.mp H
 obtain ⟨t130, A40, H⟩ := H
 replace H : (if t130 = true then (some a2) else (saronref06_plays.l0 k a2 a1_1 a0_0 a0_1 a0_2 l0_3 a1_0 a1_1 a1_2 a1_3)) = some r := H
 have A4 := zh A40
 clear A40
 by_cases c5 : t130 = true
 ·subst c5
  have H1 : (some a2) = some r := by rw [if_pos rfl] at H; exact H
  clear H
  have H := H1
  clear H1
  obtain rfl := Option.some.inj H
  go_enter Tryd.func90, Tryd.ntmps90
  go_wp2_with (first | ((with_reducible refine gate_dst (N := 3) rfl ?_); refine box_event ?hg (N := 3) ?hd (cs := #[.int .i64 a0_0, .int .i64 a0_1, .int .i64 a0_2, .slice A0_3 l0_3.length c0_3]) (t := 24) ?hr ?_; (case hd => rfl); (case hg => rfl); (case hr => first | (go_simp; done) | (go_simp; rfl)); intro gb128 hg w6 hbox hb; have n0_ := zh (below_step zb hb); have n1_ := zh (hbox); have n2_ := zh ((by rw [hg]; exact (below_size zb) : w.heap.size ≤ gb128)); have n3_ := zh ((by rw [hg]; exact (below_size zb) : w.heap.size ≤ gb128)); clear HB; have HB := n0_; have BK128 := n1_; have GW128 := n2_; have GE128 := n3_; clear n0_ n1_ n2_ n3_; clear hb hbox hg) | ((with_reducible refine gate_dst (N := 4) rfl ?_); refine box_event ?hg (N := 4) ?hd (cs := #[.int .i64 a1_0, .int .i64 a1_1, .int .i64 a1_2, .int .i64 a1_3]) (t := 66) ?hr ?_; (case hd => rfl); (case hg => rfl); (case hr => first | (go_simp; done) | (go_simp; rfl)); intro gb129 hg w7 hbox hb; have n0_ := zh (blk_below (g := gb128) (o := .cells #[.int .i64 a0_0, .int .i64 a0_1, .int .i64 a0_2, .slice A0_3 l0_3.length c0_3] 24 (0, 0)) (zc BK128) hb); have n1_ := zh (below_step zb hb); have n2_ := zh (hbox); have n3_ := zh ((by rw [hg]; exact (below_size zb) : w.heap.size ≤ gb129)); have n4_ := zh ((by rw [hg]; exact (below_size zb) : w.heap.size ≤ gb129)); have n5_ := zh ((by rw [hg]; exact Nat.ne_of_lt (blk_lt (g := gb128) (o := .cells #[.int .i64 a0_0, .int .i64 a0_1, .int .i64 a0_2, .slice A0_3 l0_3.length c0_3] 24 (0, 0)) (zc BK128)) : gb128 ≠ gb129)); have n6_ := zh ((by rw [hg]; exact Nat.ne_of_gt (blk_lt (g := gb128) (o := .cells #[.int .i64 a0_0, .int .i64 a0_1, .int .i64 a0_2, .slice A0_3 l0_3.length c0_3] 24 (0, 0)) (zc BK128)) : gb129 ≠ gb128)); clear BK128; clear HB; have BK128 := n0_; have HB := n1_; have BK129 := n2_; have GW129 := n3_; have GE129 := n4_; have NB128_129 := n5_; have NB129_128 := n6_; clear n0_ n1_ n2_ n3_ n4_ n5_ n6_; clear hb hbox hg; have hnb8 := NB129_128.out; have hnc8 := NB128_129.out; have hcz9_0 : w7.cell? ⟨gb129, 0, none⟩ = some (.int .i64 a1_0) := vb BK129 0; have hcz9_1 : w7.cell? ⟨gb129, 1, none⟩ = some (.int .i64 a1_1) := vb BK129 1; have hcz9_2 : w7.cell? ⟨gb129, 2, none⟩ = some (.int .i64 a1_2) := vb BK129 2; have hcz9_3 : w7.cell? ⟨gb129, 3, none⟩ = some (.int .i64 a1_3) := vb BK129 3; have hfz9_0 := blk_frozen BK129.out 0; have hfz9_1 := blk_frozen BK129.out 1; have hfz9_2 := blk_frozen BK129.out 2; have hfz9_3 := blk_frozen BK129.out 3) | ((with_reducible refine gate_callee (f := 45) rfl ?_); refine goesL_ (some 13) rfl rfl Tryd.func45 zk rfl #[.int .i64 a2, .int .i64 a1_1, .int .i64 a1_2] rfl zm ?_; (with_reducible refine (saronref00_Sits.calls a2 a1_1 a1_2 true _ A4.out).mono ?_); rintro e w' ⟨rfl, ⟨nd, rfl⟩⟩; refine ⟨_, rfl, ?_⟩))
  go_ret
  exact ⟨zf, zb⟩
 ·replace c5 := Bool.eq_false_iff.mpr c5
  subst c5
  have H1 : (saronref06_plays.l0 k a2 a1_1 a0_0 a0_1 a0_2 l0_3 a1_0 a1_1 a1_2 a1_3) = some r := by rw [if_neg (show ¬ (false = true) by decide)] at H; exact H
  clear H
  have H := H1
  clear H1
  have H' := zh H
  clear H
  go_enter Tryd.func90, Tryd.ntmps90
  go_wp2_with (first | ((with_reducible refine gate_dst (N := 3) rfl ?_); refine box_event ?hg (N := 3) ?hd (cs := #[.int .i64 a0_0, .int .i64 a0_1, .int .i64 a0_2, .slice A0_3 l0_3.length c0_3]) (t := 24) ?hr ?_; (case hd => rfl); (case hg => rfl); (case hr => first | (go_simp; done) | (go_simp; rfl)); intro gb128 hg w10 hbox hb; have n0_ := zh (below_step zb hb); have n1_ := zh (hbox); have n2_ := zh ((by rw [hg]; exact (below_size zb) : w.heap.size ≤ gb128)); have n3_ := zh ((by rw [hg]; exact (below_size zb) : w.heap.size ≤ gb128)); clear HB; have HB := n0_; have BK128 := n1_; have GW128 := n2_; have GE128 := n3_; clear n0_ n1_ n2_ n3_; clear hb hbox hg) | ((with_reducible refine gate_dst (N := 4) rfl ?_); refine box_event ?hg (N := 4) ?hd (cs := #[.int .i64 a1_0, .int .i64 a1_1, .int .i64 a1_2, .int .i64 a1_3]) (t := 66) ?hr ?_; (case hd => rfl); (case hg => rfl); (case hr => first | (go_simp; done) | (go_simp; rfl)); intro gb129 hg w11 hbox hb; have n0_ := zh (blk_below (g := gb128) (o := .cells #[.int .i64 a0_0, .int .i64 a0_1, .int .i64 a0_2, .slice A0_3 l0_3.length c0_3] 24 (0, 0)) (zc BK128) hb); have n1_ := zh (below_step zb hb); have n2_ := zh (hbox); have n3_ := zh ((by rw [hg]; exact (below_size zb) : w.heap.size ≤ gb129)); have n4_ := zh ((by rw [hg]; exact (below_size zb) : w.heap.size ≤ gb129)); have n5_ := zh ((by rw [hg]; exact Nat.ne_of_lt (blk_lt (g := gb128) (o := .cells #[.int .i64 a0_0, .int .i64 a0_1, .int .i64 a0_2, .slice A0_3 l0_3.length c0_3] 24 (0, 0)) (zc BK128)) : gb128 ≠ gb129)); have n6_ := zh ((by rw [hg]; exact Nat.ne_of_gt (blk_lt (g := gb128) (o := .cells #[.int .i64 a0_0, .int .i64 a0_1, .int .i64 a0_2, .slice A0_3 l0_3.length c0_3] 24 (0, 0)) (zc BK128)) : gb129 ≠ gb128)); clear BK128; clear HB; have BK128 := n0_; have HB := n1_; have BK129 := n2_; have GW129 := n3_; have GE129 := n4_; have NB128_129 := n5_; have NB129_128 := n6_; clear n0_ n1_ n2_ n3_ n4_ n5_ n6_; clear hb hbox hg; have hnb12 := NB129_128.out; have hnc12 := NB128_129.out; have hcz13_0 : w11.cell? ⟨gb129, 0, none⟩ = some (.int .i64 a1_0) := vb BK129 0; have hcz13_1 : w11.cell? ⟨gb129, 1, none⟩ = some (.int .i64 a1_1) := vb BK129 1; have hcz13_2 : w11.cell? ⟨gb129, 2, none⟩ = some (.int .i64 a1_2) := vb BK129 2; have hcz13_3 : w11.cell? ⟨gb129, 3, none⟩ = some (.int .i64 a1_3) := vb BK129 3; have hfz13_0 := blk_frozen BK129.out 0; have hfz13_1 := blk_frozen BK129.out 1; have hfz13_2 := blk_frozen BK129.out 2; have hfz13_3 := blk_frozen BK129.out 3) | ((with_reducible refine gate_callee (f := 45) rfl ?_); refine goesL_ (some 13) rfl rfl Tryd.func45 zk rfl #[.int .i64 a2, .int .i64 a1_1, .int .i64 a1_2] rfl zm ?_; (with_reducible refine (saronref00_Sits.calls a2 a1_1 a1_2 false _ A4.out).mono ?_); rintro e w' ⟨rfl, ⟨nd, rfl⟩⟩; refine ⟨_, rfl, ?_⟩))
  go_loopg [7] k (fun kq v7 w' => ∃ (x7_1 : Int), v7 = .int .i64 x7_1 ∧ Aside0 (saronref06_plays.l0 kq a2 x7_1 a0_0 a0_1 a0_2 l0_3 a1_0 a1_1 a1_2 a1_3 = some r) ∧ Aside0 (kq ≤ k) ∧ Aside0 (w'.heap[gb128]? = some (.cells #[.int .i64 a0_0, .int .i64 a0_1, .int .i64 a0_2, (.slice A0_3 l0_3.length c0_3)] 24 (0, 0))) ∧ Aside0 (w'.heap[gb129]? = some (.cells #[.int .i64 a1_0, .int .i64 a1_1, .int .i64 a1_2, .int .i64 a1_3] 66 (0, 0))) ∧ Aside0 (Below w.heap.size w w'))
  case atStart => exact ⟨(a1_1), ze, H', ⟨Nat.le_refl _⟩, ⟨zc BK128⟩, ⟨zc BK129⟩, ⟨zb⟩⟩
  case round =>
   clear H'
   try clear c1
   try clear p2
   try clear c4
   try clear c5
   try clear c8
   try clear c9
   try clear c12
   try clear hcz13_0
   try clear hcz13_1
   try clear hcz13_2
   try clear hcz13_3
   try clear hcz9_0
   try clear hcz9_1
   try clear hcz9_2
   try clear hcz9_3
   try clear hfz13_0
   try clear hfz13_1
   try clear hfz13_2
   try clear hfz13_3
   try clear hfz9_0
   try clear hfz9_1
   try clear hfz9_2
   try clear hfz9_3
   obtain ⟨x7_1, rfl, HA, HK1, BK128, BK129, HB⟩ := hrel
   cases gk with
   | zero => exact absurd HA.out (by simp [saronref06_plays.l0])
   | succ k1 =>
    have H := HA.out
    clear HA
    simp only [saronref06_plays.l0] at H
    by_cases c14 : x7_1 ≤ a1_2
    ·rw [if_pos c14] at H
     have c14b0 : decide (x7_1 ≤ a1_2) = true := decide_eq_true c14
     clear c14
     replace H := Option.bind_eq_some_iff.mp H
     obtain ⟨t131, A150, H⟩ := H
     replace H : (if t131 = 0 then (some x7_1) else (saronref06_plays.l0 k1 a2 (wrap64 (x7_1 + 1)) a0_0 a0_1 a0_2 l0_3 a1_0 a1_1 a1_2 a1_3)) = some r := H
     have A15 := zh A150
     clear A150
     by_cases c16 : t131 = 0
     ·rw [if_pos c16] at H
      have c16b0 : (t131 == 0) = true := beq_iff_eq.mpr c16
      have c16b1 : (t131 != 0) = false := bne_eq_false_iff_eq.mpr c16
      clear c16
      obtain rfl := Option.some.inj H
      have hnb17 := NB129_128.out
      have hnc17 := NB128_129.out
      have hcz18_0 : wr.cell? ⟨gb129, 0, none⟩ = some (.int .i64 a1_0) := vb BK129 0
      have hcz18_1 : wr.cell? ⟨gb129, 1, none⟩ = some (.int .i64 a1_1) := vb BK129 1
      have hcz18_2 : wr.cell? ⟨gb129, 2, none⟩ = some (.int .i64 a1_2) := vb BK129 2
      have hcz18_3 : wr.cell? ⟨gb129, 3, none⟩ = some (.int .i64 a1_3) := vb BK129 3
      have hfz18_0 := blk_frozen BK129.out 0
      have hfz18_1 := blk_frozen BK129.out 1
      have hfz18_2 := blk_frozen BK129.out 2
      have hfz18_3 := blk_frozen BK129.out 3
      have hcz19_0 : wr.cell? ⟨gb128, 0, none⟩ = some (.int .i64 a0_0) := vb BK128 0
      have hcz19_1 : wr.cell? ⟨gb128, 1, none⟩ = some (.int .i64 a0_1) := vb BK128 1
      have hcz19_2 : wr.cell? ⟨gb128, 2, none⟩ = some (.int .i64 a0_2) := vb BK128 2
      have hcz19_3 : wr.cell? ⟨gb128, 3, none⟩ = some (.slice A0_3 l0_3.length c0_3) := vb BK128 3
      have hfz19_0 := blk_frozen BK128.out 0
      have hfz19_1 := blk_frozen BK128.out 1
      have hfz19_2 := blk_frozen BK128.out 2
      have hfz19_3 := blk_frozen BK128.out 3
      go_wp2_with (first | ((with_reducible refine gate_callee (f := 42) rfl ?_); refine goesL_ (some 28) rfl rfl Tryd.func42 zk rfl #[.int .i64 (wrap64 (x7_1 - a2)), .int .i64 a0_0] rfl zm ?_; (with_reducible refine (saronref00_Turn.calls (wrap64 (x7_1 - a2)) a0_0 t131 _ A15.out).mono ?_); rintro e w' ⟨rfl, ⟨nd, rfl⟩⟩; refine ⟨_, rfl, ?_⟩))
      go_ret
      exact ⟨zf, zb⟩
     ·rw [if_neg c16] at H
      have c16b0 : (t131 == 0) = false := beq_eq_false_iff_ne.mpr c16
      have c16b1 : (t131 != 0) = true := bne_iff_ne.mpr c16
      have H' := zh H
      clear H
      have hnb20 := NB129_128.out
      have hnc20 := NB128_129.out
      have hcz21_0 : wr.cell? ⟨gb129, 0, none⟩ = some (.int .i64 a1_0) := vb BK129 0
      have hcz21_1 : wr.cell? ⟨gb129, 1, none⟩ = some (.int .i64 a1_1) := vb BK129 1
      have hcz21_2 : wr.cell? ⟨gb129, 2, none⟩ = some (.int .i64 a1_2) := vb BK129 2
      have hcz21_3 : wr.cell? ⟨gb129, 3, none⟩ = some (.int .i64 a1_3) := vb BK129 3
      have hfz21_0 := blk_frozen BK129.out 0
      have hfz21_1 := blk_frozen BK129.out 1
      have hfz21_2 := blk_frozen BK129.out 2
      have hfz21_3 := blk_frozen BK129.out 3
      have hcz22_0 : wr.cell? ⟨gb128, 0, none⟩ = some (.int .i64 a0_0) := vb BK128 0
      have hcz22_1 : wr.cell? ⟨gb128, 1, none⟩ = some (.int .i64 a0_1) := vb BK128 1
      have hcz22_2 : wr.cell? ⟨gb128, 2, none⟩ = some (.int .i64 a0_2) := vb BK128 2
      have hcz22_3 : wr.cell? ⟨gb128, 3, none⟩ = some (.slice A0_3 l0_3.length c0_3) := vb BK128 3
      have hfz22_0 := blk_frozen BK128.out 0
      have hfz22_1 := blk_frozen BK128.out 1
      have hfz22_2 := blk_frozen BK128.out 2
      have hfz22_3 := blk_frozen BK128.out 3
      go_wp2_with (first | ((with_reducible refine gate_callee (f := 42) rfl ?_); refine goesL_ (some 28) rfl rfl Tryd.func42 zk rfl #[.int .i64 (wrap64 (x7_1 - a2)), .int .i64 a0_0] rfl zm ?_; (with_reducible refine (saronref00_Turn.calls (wrap64 (x7_1 - a2)) a0_0 t131 _ A15.out).mono ?_); rintro e w' ⟨rfl, ⟨nd, rfl⟩⟩; refine ⟨_, rfl, ?_⟩))
      go_roundg k1
      case measure => have := HK1.out; omega
      case rel => exact ⟨(wrap64 (x7_1 + 1)), ze, H', ⟨by have := HK1.out; omega⟩, ⟨zc BK128⟩, ⟨zc BK129⟩, ⟨zb⟩⟩
    ·rw [if_neg c14] at H
     have c14b0 : decide (x7_1 ≤ a1_2) = false := decide_eq_false c14
     clear c14
     obtain rfl := Option.some.inj H
     have hnb23 := NB129_128.out
     have hnc23 := NB128_129.out
     have hcz24_0 : wr.cell? ⟨gb129, 0, none⟩ = some (.int .i64 a1_0) := vb BK129 0
     have hcz24_1 : wr.cell? ⟨gb129, 1, none⟩ = some (.int .i64 a1_1) := vb BK129 1
     have hcz24_2 : wr.cell? ⟨gb129, 2, none⟩ = some (.int .i64 a1_2) := vb BK129 2
     have hcz24_3 : wr.cell? ⟨gb129, 3, none⟩ = some (.int .i64 a1_3) := vb BK129 3
     have hfz24_0 := blk_frozen BK129.out 0
     have hfz24_1 := blk_frozen BK129.out 1
     have hfz24_2 := blk_frozen BK129.out 2
     have hfz24_3 := blk_frozen BK129.out 3
     go_wp2
     go_ret
     exact ⟨zf, zb⟩
end Go.Proofs.YtagkfkdoibnhfaaDoor.H
end
section
namespace Go.Proofs.YtagkfkdoibnhfaaDoor.H
open Go.RowKit Go.Proofs.YtagkfkdoibnhfaaDoorW.PrintWords Go.Proofs.YtagkfkdoibnhfaaDoorW.PrintLast Go.Proofs.YtagkfkdoibnhfaaDoorW.PrintMore
attribute [local go_sem] max2_int min2_int max_two min_two max_three min_three max_four min_four   -- for this text's walks alone
set_option linter.unusedVariables false
set_option linter.unusedSimpArgs false
mutual
def saronref06_bar.j0 : Nat → List Int → Int → Int → Int → List (S66) → Int → Int → Int → Int → Option (List Int)
 | 0, _, _, _, _, _, _, _, _, _ => none
 | k + 1, x10, x133000, x133001, x133002, x133003, x135000, x135001, x135002, x135003 => saronref06_bar.l0 k x10 0 x133000 x133001 x133002 x133003 x135000 x135001 x135002 x135003
def saronref06_bar.l0 : Nat → List Int → Int → Int → Int → Int → List (S66) → Int → Int → Int → Int → Option (List Int)
 | 0, _, _, _, _, _, _, _, _, _, _ => none
 | k + 1, x10, x11, x133000, x133001, x133002, x133003, x135000, x135001, x135002, x135003 => if x11 < (x10.length : Int) then (if 0 ≤ x11 then ((saronref06_plays.f k x133000 x133001 x133002 x133003 x135000 x135001 x135002 x135003 (rd x10 x11)).bind fun t151 => (saronref06_bar.l0 k (x10.set (x11 : Int).toNat t151) (wrap64 (x11 + 1)) x133000 x133001 x133002 x133003 x135000 x135001 x135002 x135003)) else (none)) else (some x10)
end
def saronref06_bar.f (k : Nat) (a0_0 : Int) (a0_1 : Int) (a0_2 : Int) (l0_3 : List (S66)) (a1 : Int) (a2 : Int) (a3 : Int) : Option (List Int) := if 0 ≤ a1 then (if a1 < (l0_3.length : Int) then (if ((rd_T66 l0_3 a1).f0) = 0 then (saronref06_bar.j0 k (([a3] : List Int)) a0_0 a0_1 a0_2 l0_3 ((rd_T66 l0_3 a1).f0) ((rd_T66 l0_3 a1).f1) ((rd_T66 l0_3 a1).f2) ((rd_T66 l0_3 a1).f3)) else (if ((rd_T66 l0_3 a1).f0) = 1 then (saronref06_bar.j0 k (([a2, a3] : List Int)) a0_0 a0_1 a0_2 l0_3 ((rd_T66 l0_3 a1).f0) ((rd_T66 l0_3 a1).f1) ((rd_T66 l0_3 a1).f2) ((rd_T66 l0_3 a1).f3)) else (if ((rd_T66 l0_3 a1).f0) = 2 then (saronref06_bar.j0 k (([a2, a2, a3, a3] : List Int)) a0_0 a0_1 a0_2 l0_3 ((rd_T66 l0_3 a1).f0) ((rd_T66 l0_3 a1).f1) ((rd_T66 l0_3 a1).f2) ((rd_T66 l0_3 a1).f3)) else (if ((rd_T66 l0_3 a1).f0) = 3 then (saronref06_bar.j0 k (([a2, a3, a2, a3] : List Int)) a0_0 a0_1 a0_2 l0_3 ((rd_T66 l0_3 a1).f0) ((rd_T66 l0_3 a1).f1) ((rd_T66 l0_3 a1).f2) ((rd_T66 l0_3 a1).f3)) else (saronref06_bar.j0 k (([wrap64 (a2 + ((rd_T66 l0_3 a1).f3)), a2, wrap64 (a3 + ((rd_T66 l0_3 a1).f3)), a3] : List Int)) a0_0 a0_1 a0_2 l0_3 ((rd_T66 l0_3 a1).f0) ((rd_T66 l0_3 a1).f1) ((rd_T66 l0_3 a1).f2) ((rd_T66 l0_3 a1).f3)))))) else (none)) else (none)
def saronref06_bar.T16 : Bool × List (List Nat × List Nat) := (true, [([], []), ([], []), ([], []), ([], []), ([], []), ([], []), ([4, 5], [4, 5]), ([6], [6]), ([2, 3, 7], [2, 3, 7]), ([0, 1, 0, 1, 2, 3, 4, 5, 6, 7, 8], [0, 1]), ([9, 8, 8, 0, 1, 2, 3, 4, 5, 6, 7, 8], [8, 9])])
def saronref06_bar.B16 : List Nat := [0, 0, 0, 0, 0, 0, 48, 112, 252, 511, 1023]
theorem saronref06_bar.tab16 : rtab .any (opsOf Tryd.f81 16) = saronref06_bar.T16 := by kernel_rfl
theorem saronref06_bar.bits16 : waitsOk saronref06_bar.T16.2 saronref06_bar.B16 = true := by kernel_rfl
set_option maxHeartbeats 8000000 in
set_option maxRecDepth 100000 in
theorem saronref06_bar.calls (k : Nat) (a0_0 : Int) (a0_1 : Int) (a0_2 : Int) (A0_3 : Option Addr) (c0_3 : Nat) (l0_3 : List (S66)) (a1 : Int) (a2 : Int) (a3 : Int) (r : List Int) (w : World) (hr0_3 : Kd.C k66 w A0_3 l0_3.length l0_3) (hc0_3 : l0_3.length ≤ c0_3) (h : saronref06_bar.f k a0_0 a0_1 a0_2 l0_3 a1 a2 a3 = some r) :
  Calls Tryd.prog 81 #[.agg #[.int .i64 a0_0, .int .i64 a0_1, .int .i64 a0_2, .slice A0_3 l0_3.length c0_3], .int .i64 a1, .int .i64 a2, .int .i64 a3] w fun e w' => ∃ v0_ : Value, e = .returned (v0_) ∧ Kd.R (Kd.int .i64) 3 w' w.heap.size (fun _ => True) v0_ r ∧ Below w.heap.size w w' := by
 have hu24 := Tryd.underlying24
 have hu66 := Tryd.underlying66
 have HR0_3 := zh hr0_3
 have HC0_3 := zh hc0_3
 clear hr0_3 hc0_3
 have HB := zh (Below.refl w.heap.size w)
 have H : (if 0 ≤ a1 then (if a1 < (l0_3.length : Int) then (if ((rd_T66 l0_3 a1).f0) = 0 then (saronref06_bar.j0 k (([a3] : List Int)) a0_0 a0_1 a0_2 l0_3 ((rd_T66 l0_3 a1).f0) ((rd_T66 l0_3 a1).f1) ((rd_T66 l0_3 a1).f2) ((rd_T66 l0_3 a1).f3)) else (if ((rd_T66 l0_3 a1).f0) = 1 then (saronref06_bar.j0 k (([a2, a3] : List Int)) a0_0 a0_1 a0_2 l0_3 ((rd_T66 l0_3 a1).f0) ((rd_T66 l0_3 a1).f1) ((rd_T66 l0_3 a1).f2) ((rd_T66 l0_3 a1).f3)) else (if ((rd_T66 l0_3 a1).f0) = 2 then (saronref06_bar.j0 k (([a2, a2, a3, a3] : List Int)) a0_0 a0_1 a0_2 l0_3 ((rd_T66 l0_3 a1).f0) ((rd_T66 l0_3 a1).f1) ((rd_T66 l0_3 a1).f2) ((rd_T66 l0_3 a1).f3)) else (if ((rd_T66 l0_3 a1).f0) = 3 then (saronref06_bar.j0 k (([a2, a3, a2, a3] : List Int)) a0_0 a0_1 a0_2 l0_3 ((rd_T66 l0_3 a1).f0) ((rd_T66 l0_3 a1).f1) ((rd_T66 l0_3 a1).f2) ((rd_T66 l0_3 a1).f3)) else (saronref06_bar.j0 k (([wrap64 (a2 + ((rd_T66 l0_3 a1).f3)), a2, wrap64 (a3 + ((rd_T66 l0_3 a1).f3)), a3] : List Int)) a0_0 a0_1 a0_2 l0_3 ((rd_T66 l0_3 a1).f0) ((rd_T66 l0_3 a1).f1) ((rd_T66 l0_3 a1).f2) ((rd_T66 l0_3 a1).f3)))))) else (none)) else (none)) = some r := h
 clear h
 by_cases c5 : 0 ≤ a1
 ·rw [if_pos c5] at H
  have c5b0 : decide (0 ≤ a1) = true := decide_eq_true c5
  clear c5
  by_cases c6 : a1 < (l0_3.length : Int)
  ·rw [if_pos c6] at H
   have c6b0 : decide (a1 < (l0_3.length : Int)) = true := decide_eq_true c6
   clear c6
   have HC7 := zh H
   clear H
   go_enter Tryd.func81, Tryd.ntmps81
   go_upto_block 0 with (first | ((with_reducible refine gate_dst (N := 4) rfl ?_); refine box_event ?hg (N := 4) ?hd (cs := #[.int .i64 a0_0, .int .i64 a0_1, .int .i64 a0_2, .slice A0_3 l0_3.length c0_3]) (t := 24) ?hr ?_; (case hd => rfl); (case hg => rfl); (case hr => first | (go_simp; done) | (go_simp; rfl)); intro gb132 hg w8 hbox hb; have n0_ := zh (below_step zb hb); have n1_ := zh (hbox); have n2_ := zh ((by rw [hg]; exact (below_size zb) : w.heap.size ≤ gb132)); have n3_ := zh ((by rw [hg]; exact (below_size zb) : w.heap.size ≤ gb132)); clear HB; have HB := n0_; have BK132 := n1_; have GW132 := n2_; have GE132 := n3_; clear n0_ n1_ n2_ n3_; clear hb hbox hg; have hcz9_0 : w8.cell? ⟨gb132, 0, none⟩ = some (.int .i64 a0_0) := vb BK132 0; have hcz9_1 : w8.cell? ⟨gb132, 1, none⟩ = some (.int .i64 a0_1) := vb BK132 1; have hcz9_2 : w8.cell? ⟨gb132, 2, none⟩ = some (.int .i64 a0_2) := vb BK132 2; have hcz9_3 : w8.cell? ⟨gb132, 3, none⟩ = some (.slice A0_3 l0_3.length c0_3) := vb BK132 3; have hfz9_0 := blk_frozen BK132.out 0; have hfz9_1 := blk_frozen BK132.out 1; have hfz9_2 := blk_frozen BK132.out 2; have hfz9_3 := blk_frozen BK132.out 3; have p133 : 0 ≤ (a1 : Int) := of_decide_eq_true zs; have q133 : a1 < (l0_3.length : Int) := of_decide_eq_true zs; obtain ⟨ad133, e133, hx133_0, hx133_1, hx133_2, hx133_3⟩ := at_T66 HR0_3.out a1 p133 q133; cases e133; replace hx133_0 := (HB.out.cell (World.block_lt_of_cell? w _ hx133_0)).trans hx133_0; replace hx133_1 := (HB.out.cell (World.block_lt_of_cell? w _ hx133_1)).trans hx133_1; replace hx133_2 := (HB.out.cell (World.block_lt_of_cell? w _ hx133_2)).trans hx133_2; replace hx133_3 := (HB.out.cell (World.block_lt_of_cell? w _ hx133_3)).trans hx133_3; replace p133 := eq_true p133; replace q133 := eq_true q133) | ((with_reducible refine gate_dst (N := 9) rfl ?_); refine box_event ?hg (N := 9) ?hd (cs := #[.int .i64 0, .int .i64 0, .int .i64 0, .int .i64 0]) (t := 66) ?hr ?_; (case hd => rfl); (case hg => rfl); (case hr => first | (go_simp; done) | (go_simp; rfl)); intro gb134 hg w10 hbox hb; have n0_ := zh (blk_below (g := gb132) (o := .cells #[.int .i64 a0_0, .int .i64 a0_1, .int .i64 a0_2, .slice (some ad133) l0_3.length c0_3] 24 (0, 0)) (zc BK132) hb); have n1_ := zh (below_step zb hb); have n2_ := zh (hbox); have n3_ := zh ((by rw [hg]; exact (below_size zb) : w.heap.size ≤ gb134)); have n4_ := zh ((by rw [hg]; exact (below_size zb) : w.heap.size ≤ gb134)); have n5_ := zh ((by rw [hg]; exact Nat.ne_of_lt (blk_lt (g := gb132) (o := .cells #[.int .i64 a0_0, .int .i64 a0_1, .int .i64 a0_2, .slice (some ad133) l0_3.length c0_3] 24 (0, 0)) (zc BK132)) : gb132 ≠ gb134)); have n6_ := zh ((by rw [hg]; exact Nat.ne_of_gt (blk_lt (g := gb132) (o := .cells #[.int .i64 a0_0, .int .i64 a0_1, .int .i64 a0_2, .slice (some ad133) l0_3.length c0_3] 24 (0, 0)) (zc BK132)) : gb134 ≠ gb132)); clear BK132; clear HB; have BK132 := n0_; have HB := n1_; have BK134 := n2_; have GW134 := n3_; have GE134 := n4_; have NB132_134 := n5_; have NB134_132 := n6_; clear n0_ n1_ n2_ n3_ n4_ n5_ n6_; clear hb hbox hg; have hnb11 := NB134_132.out; have hnc11 := NB132_134.out; have hcz12_0 : w10.cell? ⟨gb134, 0, none⟩ = some (.int .i64 0) := vb BK134 0; have hcz12_1 : w10.cell? ⟨gb134, 1, none⟩ = some (.int .i64 0) := vb BK134 1; have hcz12_2 : w10.cell? ⟨gb134, 2, none⟩ = some (.int .i64 0) := vb BK134 2; have hcz12_3 : w10.cell? ⟨gb134, 3, none⟩ = some (.int .i64 0) := vb BK134 3; have hfz12_0 := blk_frozen BK134.out 0; have hfz12_1 := blk_frozen BK134.out 1; have hfz12_2 := blk_frozen BK134.out 2; have hfz12_3 := blk_frozen BK134.out 3))
   (try simp only [Act.put, List.setIfInBounds_toArray, List.set_cons_zero, List.set_cons_succ])
   go_cut [10] (fun v10 wc => ∃ (kq : Nat) (x10_6 : List Int), Aside0 (saronref06_bar.j0 kq x10_6 a0_0 a0_1 a0_2 l0_3 ((rd_T66 l0_3 a1).f0) ((rd_T66 l0_3 a1).f1) ((rd_T66 l0_3 a1).f2) ((rd_T66 l0_3 a1).f3) = some r) ∧ Aside0 (kq ≤ k) ∧ Aside0 (Kd.R (Kd.int .i64) 3 wc w.heap.size (fun _ => True) v10 x10_6) ∧ Aside0 (wc.heap[gb132]? = some (.cells #[.int .i64 a0_0, .int .i64 a0_1, .int .i64 a0_2, (.slice (some ad133) l0_3.length c0_3)] 24 (0, 0))) ∧ Aside0 (wc.heap[gb134]? = some (.cells #[.int .i64 ((rd_T66 l0_3 a1).f0), .int .i64 ((rd_T66 l0_3 a1).f1), .int .i64 ((rd_T66 l0_3 a1).f2), .int .i64 ((rd_T66 l0_3 a1).f3)] 66 (0, 0))) ∧ Aside0 (Below w.heap.size w wc))
   case first =>
    have H := HC7.out
    clear HC7
    by_cases c13 : ((rd_T66 l0_3 a1).f0) = 0
    ·rw [if_pos c13] at H
     have c13b0 : (((rd_T66 l0_3 a1).f0) == 0) = true := beq_iff_eq.mpr c13
     have c13b1 : (((rd_T66 l0_3 a1).f0) != 0) = false := bne_eq_false_iff_eq.mpr c13
     clear c13
     (first | rw [c13b0] | (simp only [i64_w, i32_w]; rw [c13b0]) | skip)
     obtain ⟨y135, hy135⟩ : ∃ y_ : List Int, y_ = (([a3] : List Int)) := ⟨_, rfl⟩
     replace H : (saronref06_bar.j0 k y135 a0_0 a0_1 a0_2 l0_3 ((rd_T66 l0_3 a1).f0) ((rd_T66 l0_3 a1).f1) ((rd_T66 l0_3 a1).f2) ((rd_T66 l0_3 a1).f3)) = some r := by first | (rw [hy135]; with_reducible exact H) | (have H2_ := (Option.bind_some _ _).symm.trans H; rw [hy135]; with_reducible exact H2_) | (have H2_ := (Option.bind_some _ _).symm.trans H; with_reducible exact H2_) | with_reducible exact H | (rw [hy135]; exact H) | exact H
     have Ny135 := zh hy135
     clear hy135
     have H' := zh H
     clear H
     go_wp2_with (first | ((with_reducible refine gate_dst (N := 33) rfl ?_); refine Kd.R_lit (Kd.int .i64) _ 3 ?hg (N := 33) ?hd (xs := ([a3] : List Int)) (inner := [.int .i64 a3]) (ok := fun _ => True) (okp := fun _ => True) ?hr ?hp (fun _ hk => hk) trivial (Below.refl _ _) (Nat.le_refl _) (by simp) ?_; (case hd => rfl); (case hg => rfl); (case hr => first | (go_simp; done) | (go_simp; rfl)); (case hp => exact (Reps.one (show Kd.M (Kd.int .i64) _ _ _ a3 [.int .i64 a3] from rfl) (Reps.none _ _))); intro v136 w14 ho15 hb hg_ hnew_; clear hg_ hnew_; (first | rw [← Ny135.out] at ho15 | (simp only [Int.reduceToNat] at ho15; rw [← Ny135.out] at ho15)); have n0_ := zh (Kd.R_lower ho15 (below_size zb)); have n1_ := zh (blk_below (g := gb132) (o := .cells #[.int .i64 a0_0, .int .i64 a0_1, .int .i64 a0_2, .slice (some ad133) l0_3.length c0_3] 24 (0, 0)) dPt2 hb); have n2_ := zh (blk_below (g := gb134) (o := .cells #[.int .i64 ((rd_T66 l0_3 a1).f0), .int .i64 ((rd_T66 l0_3 a1).f1), .int .i64 ((rd_T66 l0_3 a1).f2), .int .i64 ((rd_T66 l0_3 a1).f3)] 66 (0, 0)) dPt1 hb); have n3_ := zh (below_step zb hb); clear BK132; clear BK134; clear HB; have HO137 := n0_; have BK132 := n1_; have BK134 := n2_; have HB := n3_; clear n0_ n1_ n2_ n3_; clear hb ho15))
     go_meet
     case rel => exact ⟨_, (y135), H', ⟨zo1⟩, ⟨zR HO137⟩, ⟨zc BK132⟩, ⟨zc BK134⟩, ⟨zb⟩⟩
    ·rw [if_neg c13] at H
     have c13b0 : (((rd_T66 l0_3 a1).f0) == 0) = false := beq_eq_false_iff_ne.mpr c13
     have c13b1 : (((rd_T66 l0_3 a1).f0) != 0) = true := bne_iff_ne.mpr c13
     (first | rw [c13b0] | (simp only [i64_w, i32_w]; rw [c13b0]) | skip)
     by_cases c16 : ((rd_T66 l0_3 a1).f0) = 1
     ·rw [if_pos c16] at H
      have c16b0 : (((rd_T66 l0_3 a1).f0) == 1) = true := beq_iff_eq.mpr c16
      have c16b1 : (((rd_T66 l0_3 a1).f0) != 1) = false := bne_eq_false_iff_eq.mpr c16
      clear c16
      obtain ⟨y138, hy138⟩ : ∃ y_ : List Int, y_ = (([a2, a3] : List Int)) := ⟨_, rfl⟩
      replace H : (saronref06_bar.j0 k y138 a0_0 a0_1 a0_2 l0_3 ((rd_T66 l0_3 a1).f0) ((rd_T66 l0_3 a1).f1) ((rd_T66 l0_3 a1).f2) ((rd_T66 l0_3 a1).f3)) = some r := by first | (rw [hy138]; with_reducible exact H) | (have H2_ := (Option.bind_some _ _).symm.trans H; rw [hy138]; with_reducible exact H2_) | (have H2_ := (Option.bind_some _ _).symm.trans H; with_reducible exact H2_) | with_reducible exact H | (rw [hy138]; exact H) | exact H
      have Ny138 := zh hy138
      clear hy138
      have H' := zh H
      clear H
      go_wp2_with (first | ((with_reducible refine gate_dst (N := 38) rfl ?_); refine Kd.R_lit (Kd.int .i64) _ 3 ?hg (N := 38) ?hd (xs := ([a2, a3] : List Int)) (inner := [.int .i64 a2, .int .i64 a3]) (ok := fun _ => True) (okp := fun _ => True) ?hr ?hp (fun _ hk => hk) trivial (Below.refl _ _) (Nat.le_refl _) (by simp) ?_; (case hd => rfl); (case hg => rfl); (case hr => first | (go_simp; done) | (go_simp; rfl)); (case hp => exact (Reps.one (show Kd.M (Kd.int .i64) _ _ _ a2 [.int .i64 a2] from rfl) (Reps.one (show Kd.M (Kd.int .i64) _ _ _ a3 [.int .i64 a3] from rfl) (Reps.none _ _)))); intro v139 w17 ho18 hb hg_ hnew_; clear hg_ hnew_; (first | rw [← Ny138.out] at ho18 | (simp only [Int.reduceToNat] at ho18; rw [← Ny138.out] at ho18)); have n0_ := zh (Kd.R_lower ho18 (below_size zb)); have n1_ := zh (blk_below (g := gb132) (o := .cells #[.int .i64 a0_0, .int .i64 a0_1, .int .i64 a0_2, .slice (some ad133) l0_3.length c0_3] 24 (0, 0)) dPt2 hb); have n2_ := zh (blk_below (g := gb134) (o := .cells #[.int .i64 ((rd_T66 l0_3 a1).f0), .int .i64 ((rd_T66 l0_3 a1).f1), .int .i64 ((rd_T66 l0_3 a1).f2), .int .i64 ((rd_T66 l0_3 a1).f3)] 66 (0, 0)) dPt1 hb); have n3_ := zh (below_step zb hb); clear BK132; clear BK134; clear HB; have HO140 := n0_; have BK132 := n1_; have BK134 := n2_; have HB := n3_; clear n0_ n1_ n2_ n3_; clear hb ho18))
      go_meet
      case rel => exact ⟨_, (y138), H', ⟨zo1⟩, ⟨zR HO140⟩, ⟨zc BK132⟩, ⟨zc BK134⟩, ⟨zb⟩⟩
     ·rw [if_neg c16] at H
      have c16b0 : (((rd_T66 l0_3 a1).f0) == 1) = false := beq_eq_false_iff_ne.mpr c16
      have c16b1 : (((rd_T66 l0_3 a1).f0) != 1) = true := bne_iff_ne.mpr c16
      by_cases c19 : ((rd_T66 l0_3 a1).f0) = 2
      ·rw [if_pos c19] at H
       have c19b0 : (((rd_T66 l0_3 a1).f0) == 2) = true := beq_iff_eq.mpr c19
       have c19b1 : (((rd_T66 l0_3 a1).f0) != 2) = false := bne_eq_false_iff_eq.mpr c19
       clear c19
       obtain ⟨y141, hy141⟩ : ∃ y_ : List Int, y_ = (([a2, a2, a3, a3] : List Int)) := ⟨_, rfl⟩
       replace H : (saronref06_bar.j0 k y141 a0_0 a0_1 a0_2 l0_3 ((rd_T66 l0_3 a1).f0) ((rd_T66 l0_3 a1).f1) ((rd_T66 l0_3 a1).f2) ((rd_T66 l0_3 a1).f3)) = some r := by first | (rw [hy141]; with_reducible exact H) | (have H2_ := (Option.bind_some _ _).symm.trans H; rw [hy141]; with_reducible exact H2_) | (have H2_ := (Option.bind_some _ _).symm.trans H; with_reducible exact H2_) | with_reducible exact H | (rw [hy141]; exact H) | exact H
       have Ny141 := zh hy141
       clear hy141
       have H' := zh H
       clear H
       go_wp2_with (first | ((with_reducible refine gate_dst (N := 45) rfl ?_); refine Kd.R_lit (Kd.int .i64) _ 3 ?hg (N := 45) ?hd (xs := ([a2, a2, a3, a3] : List Int)) (inner := [.int .i64 a2, .int .i64 a2, .int .i64 a3, .int .i64 a3]) (ok := fun _ => True) (okp := fun _ => True) ?hr ?hp (fun _ hk => hk) trivial (Below.refl _ _) (Nat.le_refl _) (by simp) ?_; (case hd => rfl); (case hg => rfl); (case hr => first | (go_simp; done) | (go_simp; rfl)); (case hp => exact (Reps.one (show Kd.M (Kd.int .i64) _ _ _ a2 [.int .i64 a2] from rfl) (Reps.one (show Kd.M (Kd.int .i64) _ _ _ a2 [.int .i64 a2] from rfl) (Reps.one (show Kd.M (Kd.int .i64) _ _ _ a3 [.int .i64 a3] from rfl) (Reps.one (show Kd.M (Kd.int .i64) _ _ _ a3 [.int .i64 a3] from rfl) (Reps.none _ _)))))); intro v142 w20 ho21 hb hg_ hnew_; clear hg_ hnew_; (first | rw [← Ny141.out] at ho21 | (simp only [Int.reduceToNat] at ho21; rw [← Ny141.out] at ho21)); have n0_ := zh (Kd.R_lower ho21 (below_size zb)); have n1_ := zh (blk_below (g := gb132) (o := .cells #[.int .i64 a0_0, .int .i64 a0_1, .int .i64 a0_2, .slice (some ad133) l0_3.length c0_3] 24 (0, 0)) dPt2 hb); have n2_ := zh (blk_below (g := gb134) (o := .cells #[.int .i64 ((rd_T66 l0_3 a1).f0), .int .i64 ((rd_T66 l0_3 a1).f1), .int .i64 ((rd_T66 l0_3 a1).f2), .int .i64 ((rd_T66 l0_3 a1).f3)] 66 (0, 0)) dPt1 hb); have n3_ := zh (below_step zb hb); clear BK132; clear BK134; clear HB; have HO143 := n0_; have BK132 := n1_; have BK134 := n2_; have HB := n3_; clear n0_ n1_ n2_ n3_; clear hb ho21))
       go_meet
       case rel => exact ⟨_, (y141), H', ⟨zo1⟩, ⟨zR HO143⟩, ⟨zc BK132⟩, ⟨zc BK134⟩, ⟨zb⟩⟩
      ·rw [if_neg c19] at H
       have c19b0 : (((rd_T66 l0_3 a1).f0) == 2) = false := beq_eq_false_iff_ne.mpr c19
       have c19b1 : (((rd_T66 l0_3 a1).f0) != 2) = true := bne_iff_ne.mpr c19
       by_cases c22 : ((rd_T66 l0_3 a1).f0) = 3
       ·rw [if_pos c22] at H
        have c22b0 : (((rd_T66 l0_3 a1).f0) == 3) = true := beq_iff_eq.mpr c22
        have c22b1 : (((rd_T66 l0_3 a1).f0) != 3) = false := bne_eq_false_iff_eq.mpr c22
        clear c22
        obtain ⟨y144, hy144⟩ : ∃ y_ : List Int, y_ = (([a2, a3, a2, a3] : List Int)) := ⟨_, rfl⟩
        replace H : (saronref06_bar.j0 k y144 a0_0 a0_1 a0_2 l0_3 ((rd_T66 l0_3 a1).f0) ((rd_T66 l0_3 a1).f1) ((rd_T66 l0_3 a1).f2) ((rd_T66 l0_3 a1).f3)) = some r := by first | (rw [hy144]; with_reducible exact H) | (have H2_ := (Option.bind_some _ _).symm.trans H; rw [hy144]; with_reducible exact H2_) | (have H2_ := (Option.bind_some _ _).symm.trans H; with_reducible exact H2_) | with_reducible exact H | (rw [hy144]; exact H) | exact H
        have Ny144 := zh hy144
        clear hy144
        have H' := zh H
        clear H
        go_wp2_with (first | ((with_reducible refine gate_dst (N := 52) rfl ?_); refine Kd.R_lit (Kd.int .i64) _ 3 ?hg (N := 52) ?hd (xs := ([a2, a3, a2, a3] : List Int)) (inner := [.int .i64 a2, .int .i64 a3, .int .i64 a2, .int .i64 a3]) (ok := fun _ => True) (okp := fun _ => True) ?hr ?hp (fun _ hk => hk) trivial (Below.refl _ _) (Nat.le_refl _) (by simp) ?_; (case hd => rfl); (case hg => rfl); (case hr => first | (go_simp; done) | (go_simp; rfl)); (case hp => exact (Reps.one (show Kd.M (Kd.int .i64) _ _ _ a2 [.int .i64 a2] from rfl) (Reps.one (show Kd.M (Kd.int .i64) _ _ _ a3 [.int .i64 a3] from rfl) (Reps.one (show Kd.M (Kd.int .i64) _ _ _ a2 [.int .i64 a2] from rfl) (Reps.one (show Kd.M (Kd.int .i64) _ _ _ a3 [.int .i64 a3] from rfl) (Reps.none _ _)))))); intro v145 w23 ho24 hb hg_ hnew_; clear hg_ hnew_; (first | rw [← Ny144.out] at ho24 | (simp only [Int.reduceToNat] at ho24; rw [← Ny144.out] at ho24)); have n0_ := zh (Kd.R_lower ho24 (below_size zb)); have n1_ := zh (blk_below (g := gb132) (o := .cells #[.int .i64 a0_0, .int .i64 a0_1, .int .i64 a0_2, .slice (some ad133) l0_3.length c0_3] 24 (0, 0)) dPt2 hb); have n2_ := zh (blk_below (g := gb134) (o := .cells #[.int .i64 ((rd_T66 l0_3 a1).f0), .int .i64 ((rd_T66 l0_3 a1).f1), .int .i64 ((rd_T66 l0_3 a1).f2), .int .i64 ((rd_T66 l0_3 a1).f3)] 66 (0, 0)) dPt1 hb); have n3_ := zh (below_step zb hb); clear BK132; clear BK134; clear HB; have HO146 := n0_; have BK132 := n1_; have BK134 := n2_; have HB := n3_; clear n0_ n1_ n2_ n3_; clear hb ho24))
        go_meet
        case rel => exact ⟨_, (y144), H', ⟨zo1⟩, ⟨zR HO146⟩, ⟨zc BK132⟩, ⟨zc BK134⟩, ⟨zb⟩⟩
       ·rw [if_neg c22] at H
        have c22b0 : (((rd_T66 l0_3 a1).f0) == 3) = false := beq_eq_false_iff_ne.mpr c22
        have c22b1 : (((rd_T66 l0_3 a1).f0) != 3) = true := bne_iff_ne.mpr c22
        obtain ⟨y147, hy147⟩ : ∃ y_ : List Int, y_ = (([wrap64 (a2 + ((rd_T66 l0_3 a1).f3)), a2, wrap64 (a3 + ((rd_T66 l0_3 a1).f3)), a3] : List Int)) := ⟨_, rfl⟩
        replace H : (saronref06_bar.j0 k y147 a0_0 a0_1 a0_2 l0_3 ((rd_T66 l0_3 a1).f0) ((rd_T66 l0_3 a1).f1) ((rd_T66 l0_3 a1).f2) ((rd_T66 l0_3 a1).f3)) = some r := by first | (rw [hy147]; with_reducible exact H) | (have H2_ := (Option.bind_some _ _).symm.trans H; rw [hy147]; with_reducible exact H2_) | (have H2_ := (Option.bind_some _ _).symm.trans H; with_reducible exact H2_) | with_reducible exact H | (rw [hy147]; exact H) | exact H
        have Ny147 := zh hy147
        clear hy147
        have H' := zh H
        clear H
        have hnb25 := NB134_132.out
        have hnc25 := NB132_134.out
        have hcz26_0 : w10.cell? ⟨gb134, 0, none⟩ = some (.int .i64 0) := vb BK134 0
        have hcz26_1 : w10.cell? ⟨gb134, 1, none⟩ = some (.int .i64 0) := vb BK134 1
        have hcz26_2 : w10.cell? ⟨gb134, 2, none⟩ = some (.int .i64 0) := vb BK134 2
        have hcz26_3 : w10.cell? ⟨gb134, 3, none⟩ = some (.int .i64 0) := vb BK134 3
        have hfz26_0 := blk_frozen BK134.out 0
        have hfz26_1 := blk_frozen BK134.out 1
        have hfz26_2 := blk_frozen BK134.out 2
        have hfz26_3 := blk_frozen BK134.out 3
        go_wp2_with (first | ((with_reducible refine gate_dst (N := 29) rfl ?_); refine Kd.R_lit (Kd.int .i64) _ 3 ?hg (N := 29) ?hd (xs := ([wrap64 (a2 + ((rd_T66 l0_3 a1).f3)), a2, wrap64 (a3 + ((rd_T66 l0_3 a1).f3)), a3] : List Int)) (inner := [.int .i64 (wrap64 (a2 + ((rd_T66 l0_3 a1).f3))), .int .i64 a2, .int .i64 (wrap64 (a3 + ((rd_T66 l0_3 a1).f3))), .int .i64 a3]) (ok := fun _ => True) (okp := fun _ => True) ?hr ?hp (fun _ hk => hk) trivial (Below.refl _ _) (Nat.le_refl _) (by simp) ?_; (case hd => rfl); (case hg => rfl); (case hr => first | (go_simp; done) | (go_simp; rfl)); (case hp => exact (Reps.one (show Kd.M (Kd.int .i64) _ _ _ (wrap64 (a2 + ((rd_T66 l0_3 a1).f3))) [.int .i64 (wrap64 (a2 + ((rd_T66 l0_3 a1).f3)))] from rfl) (Reps.one (show Kd.M (Kd.int .i64) _ _ _ a2 [.int .i64 a2] from rfl) (Reps.one (show Kd.M (Kd.int .i64) _ _ _ (wrap64 (a3 + ((rd_T66 l0_3 a1).f3))) [.int .i64 (wrap64 (a3 + ((rd_T66 l0_3 a1).f3)))] from rfl) (Reps.one (show Kd.M (Kd.int .i64) _ _ _ a3 [.int .i64 a3] from rfl) (Reps.none _ _)))))); intro v148 w27 ho28 hb hg_ hnew_; clear hg_ hnew_; (first | rw [← Ny147.out] at ho28 | (simp only [Int.reduceToNat] at ho28; rw [← Ny147.out] at ho28)); have n0_ := zh (Kd.R_lower ho28 (below_size zb)); have n1_ := zh (blk_below (g := gb132) (o := .cells #[.int .i64 a0_0, .int .i64 a0_1, .int .i64 a0_2, .slice (some ad133) l0_3.length c0_3] 24 (0, 0)) dPt2 hb); have n2_ := zh (blk_below (g := gb134) (o := .cells #[.int .i64 ((rd_T66 l0_3 a1).f0), .int .i64 ((rd_T66 l0_3 a1).f1), .int .i64 ((rd_T66 l0_3 a1).f2), .int .i64 ((rd_T66 l0_3 a1).f3)] 66 (0, 0)) dPt1 hb); have n3_ := zh (below_step zb hb); clear BK132; clear BK134; clear HB; have HO149 := n0_; have BK132 := n1_; have BK134 := n2_; have HB := n3_; clear n0_ n1_ n2_ n3_; clear hb ho28))
        go_meet
        case rel => exact ⟨_, (y147), H', ⟨zo1⟩, ⟨zR HO149⟩, ⟨zc BK132⟩, ⟨zc BK134⟩, ⟨zb⟩⟩
   case rest =>
    clear HC7
    try clear c1
    try clear p1
    try clear q1
    try clear hx1
    try clear c2
    try clear p2
    try clear c5
    try clear c5b0
    try clear c6
    try clear c6b0
    try clear p6
    try clear c8
    try clear c11
    try clear c13
    try clear c13b0
    try clear c13b1
    try clear p13
    try clear q13
    try clear hx13
    try clear c16
    try clear c16b0
    try clear c16b1
    try clear c19
    try clear c19b0
    try clear c19b1
    try clear c22
    try clear c22b0
    try clear c22b1
    try clear c25
    try clear hcz12_0
    try clear hcz12_1
    try clear hcz12_2
    try clear hcz12_3
    try clear hcz26_0
    try clear hcz26_1
    try clear hcz26_2
    try clear hcz26_3
    try clear hcz9_0
    try clear hcz9_1
    try clear hcz9_2
    try clear hcz9_3
    try clear hfz12_0
    try clear hfz12_1
    try clear hfz12_2
    try clear hfz12_3
    try clear hfz26_0
    try clear hfz26_1
    try clear hfz26_2
    try clear hfz26_3
    try clear hfz9_0
    try clear hfz9_1
    try clear hfz9_2
    try clear hfz9_3
    try clear hx133_0
    try clear hx133_1
    try clear hx133_2
    try clear hx133_3
    try clear p133
    try clear q133
    obtain ⟨kq, x10_6, HA, HJ6, HO_10, BK132, BK134, HB⟩ := hcut
    cases kq with
    | zero => exact absurd HA.out (by simp [saronref06_bar.j0])
    | succ kj6 =>
     have H := HA.out
     clear HA
     simp only [saronref06_bar.j0] at H
     have H' := zh H
     clear H
     go_wp2
     go_loopg [11] kj6 (fun kq v11 w' => ∃ (x10_2 : List Int) (x11_2 : Int), v11 = .int .i64 x11_2 ∧ Aside0 (saronref06_bar.l0 kq x10_2 x11_2 a0_0 a0_1 a0_2 l0_3 ((rd_T66 l0_3 a1).f0) ((rd_T66 l0_3 a1).f1) ((rd_T66 l0_3 a1).f2) ((rd_T66 l0_3 a1).f3) = some r) ∧ Aside0 (kq ≤ kj6) ∧ Aside0 (Kd.R (Kd.int .i64) 3 w' w.heap.size (fun _ => True) u10 x10_2) ∧ Aside0 (w'.heap[gb132]? = some (.cells #[.int .i64 a0_0, .int .i64 a0_1, .int .i64 a0_2, (.slice (some ad133) l0_3.length c0_3)] 24 (0, 0))) ∧ Aside0 (w'.heap[gb134]? = some (.cells #[.int .i64 ((rd_T66 l0_3 a1).f0), .int .i64 ((rd_T66 l0_3 a1).f1), .int .i64 ((rd_T66 l0_3 a1).f2), .int .i64 ((rd_T66 l0_3 a1).f3)] 66 (0, 0))) ∧ Aside0 (Below w.heap.size w w'))
     case atStart => exact ⟨(x10_6), (0), ze, H', ⟨Nat.le_refl _⟩, ⟨zR HO_10⟩, ⟨zc BK132⟩, ⟨zc BK134⟩, ⟨zb⟩⟩
     case round =>
      clear H'
      try clear c1
      try clear p1
      try clear q1
      try clear hx1
      try clear c2
      try clear p2
      try clear c5
      try clear c5b0
      try clear c6
      try clear c6b0
      try clear p6
      try clear c8
      try clear c11
      try clear c13
      try clear c13b0
      try clear c13b1
      try clear p13
      try clear q13
      try clear hx13
      try clear c16
      try clear c16b0
      try clear c16b1
      try clear c19
      try clear c19b0
      try clear c19b1
      try clear c22
      try clear c22b0
      try clear c22b1
      try clear c25
      try clear hcz12_0
      try clear hcz12_1
      try clear hcz12_2
      try clear hcz12_3
      try clear hcz26_0
      try clear hcz26_1
      try clear hcz26_2
      try clear hcz26_3
      try clear hcz9_0
      try clear hcz9_1
      try clear hcz9_2
      try clear hcz9_3
      try clear hfz12_0
      try clear hfz12_1
      try clear hfz12_2
      try clear hfz12_3
      try clear hfz26_0
      try clear hfz26_1
      try clear hfz26_2
      try clear hfz26_3
      try clear hfz9_0
      try clear hfz9_1
      try clear hfz9_2
      try clear hfz9_3
      try clear hx133_0
      try clear hx133_1
      try clear hx133_2
      try clear hx133_3
      try clear p1
      try clear p13
      try clear p133
      try clear p2
      try clear p6
      try clear q1
      try clear q13
      try clear q133
      obtain ⟨x10_2, x11_2, rfl, HA, HK2, HO_10, BK132, BK134, HB⟩ := hrel
      cases gk with
      | zero => exact absurd HA.out (by simp [saronref06_bar.l0])
      | succ k2 =>
       have H := HA.out
       clear HA
       simp only [saronref06_bar.l0] at H
       by_cases c29 : x11_2 < (x10_2.length : Int)
       ·rw [if_pos c29] at H
        have c29b0 : decide (x11_2 < (x10_2.length : Int)) = true := decide_eq_true c29
        clear c29
        by_cases c30 : 0 ≤ x11_2
        ·rw [if_pos c30] at H
         have c30b0 : decide (0 ≤ x11_2) = true := decide_eq_true c30
         clear c30
         replace H := Option.bind_eq_some_iff.mp H
         obtain ⟨t151, A310, H⟩ := H
         replace H : (saronref06_bar.l0 k2 (x10_2.set (x11_2 : Int).toNat t151) (wrap64 (x11_2 + 1)) a0_0 a0_1 a0_2 l0_3 ((rd_T66 l0_3 a1).f0) ((rd_T66 l0_3 a1).f1) ((rd_T66 l0_3 a1).f2) ((rd_T66 l0_3 a1).f3)) = some r := H
         have A31 := zh A310
         clear A310
         obtain ⟨y152, hy152⟩ : ∃ y_ : List Int, y_ = (x10_2.set (x11_2 : Int).toNat t151) := ⟨_, rfl⟩
         replace H : (saronref06_bar.l0 k2 y152 (wrap64 (x11_2 + 1)) a0_0 a0_1 a0_2 l0_3 ((rd_T66 l0_3 a1).f0) ((rd_T66 l0_3 a1).f1) ((rd_T66 l0_3 a1).f2) ((rd_T66 l0_3 a1).f3)) = some r := by first | (rw [hy152]; with_reducible exact H) | (have H2_ := (Option.bind_some _ _).symm.trans H; rw [hy152]; with_reducible exact H2_) | (have H2_ := (Option.bind_some _ _).symm.trans H; with_reducible exact H2_) | with_reducible exact H | (rw [hy152]; exact H) | exact H
         have Ny152 := zh hy152
         clear hy152
         have H' := zh H
         clear H
         obtain ⟨Ao33, co33, eo33⟩ := Kd.R_slice HO_10.out
         subst eo33
         try go_wp2
         replace HO_10 := zh (Kd.R_drew HO_10.out)
         replace BK132 := zh (blk_drew BK132.out)
         replace BK134 := zh (blk_drew BK134.out)
         replace HB := zh (below_drew1 HB.out)
         have p150 : 0 ≤ (x11_2 : Int) := of_decide_eq_true zs
         have q150 : x11_2 < (x10_2.length : Int) := of_decide_eq_true zs
         obtain ⟨ad150, e150, hx150_0⟩ := Kd.at_int (Kd.R_reads' HO_10.out).2.2 x11_2 p150 q150
         cases e150
         replace p150 := eq_true p150
         replace q150 := eq_true q150
         refine start_ (n := 11) (S := fun w' => w'.cell? ⟨gb132, 0, none⟩ = some (.int .i64 a0_0) ∧ w'.cell? ⟨gb132, 1, none⟩ = some (.int .i64 a0_1) ∧ w'.cell? ⟨gb132, 2, none⟩ = some (.int .i64 a0_2) ∧ w'.cell? ⟨gb132, 3, none⟩ = some (.slice (some ad133) l0_3.length c0_3) ∧ w'.cell? ⟨gb134, 0, none⟩ = some (.int .i64 ((rd_T66 l0_3 a1).f0)) ∧ w'.cell? ⟨gb134, 1, none⟩ = some (.int .i64 ((rd_T66 l0_3 a1).f1)) ∧ w'.cell? ⟨gb134, 2, none⟩ = some (.int .i64 ((rd_T66 l0_3 a1).f2)) ∧ w'.cell? ⟨gb134, 3, none⟩ = some (.int .i64 ((rd_T66 l0_3 a1).f3)) ∧ w'.cell? (ad150.add (x11_2).toNat) = some (.int .i64 (rd x10_2 x11_2))) (ds := [10]) #[false, false, false, false, false, false, false, false, false, false, false] zk rfl rfl ⟨vb BK132 0, vb BK132 1, vb BK132 2, vb BK132 3, vb BK134 0, vb BK134 1, vb BK134 2, vb BK134 3, hx150_0⟩ (fun hHeld => ?_); refine with_tabW saronref06_bar.tab16 saronref06_bar.bits16 (fun HT_ HW_ => ?_)
         generalize wr.drew = w34 at HO_10 BK132 BK134 HB hx150_0 hHeld ⊢
         refine zu 0 ?_
         refine zu 1 ?_
         refine zu 4 ?_
         refine zu 5 ?_
         refine zu 6 ?_
         refine zt 2 ?_
         refine zt 3 ?_
         refine zt 7 ?_
         refine zo 8 (fun K hK => ?_)
         refine goes_ Tryd.func90 zk rfl #[.agg #[.int .i64 a0_0, .int .i64 a0_1, .int .i64 a0_2, .slice (some ad133) l0_3.length c0_3], .agg #[.int .i64 ((rd_T66 l0_3 a1).f0), .int .i64 ((rd_T66 l0_3 a1).f1), .int .i64 ((rd_T66 l0_3 a1).f2), .int .i64 ((rd_T66 l0_3 a1).f3)], .int .i64 (rd x10_2 x11_2)] (by rfl) rfl rfl zm ?_
         with_reducible refine (saronref06_plays.calls k2 a0_0 a0_1 a0_2 _ _ l0_3 ((rd_T66 l0_3 a1).f0) ((rd_T66 l0_3 a1).f1) ((rd_T66 l0_3 a1).f2) ((rd_T66 l0_3 a1).f3) (rd x10_2 x11_2) t151 _ ?side1 ?side2 A31.out).mono ?_
         (case side1 => repeat (first | exact (Kd.C_below HR0_3.out HB.out) | (with_reducible refine Kd.C_alloc ?_ _) | (with_reducible refine Kd.C_drewN ?_ _) | (with_reducible refine Kd.C_drew ?_)))
         (case side2 => exact HC0_3.out)
         rintro e w35 ⟨rfl, hb⟩
         have HS8_ := (hb.cell (World.block_lt_of_cell? _ _ (hHeld.2.2.2.2.2.2.2.2))).trans (hHeld.2.2.2.2.2.2.2.2)
         refine ⟨_, rfl, ?_⟩
         replace HO_10 := zh (Kd.R_below (zR HO_10) hb)
         replace BK132 := zh (blk_below (g := gb132) (o := .cells #[.int .i64 a0_0, .int .i64 a0_1, .int .i64 a0_2, .slice (some ad133) l0_3.length c0_3] 24 (0, 0)) (zc BK132) hb)
         replace BK134 := zh (blk_below (g := gb134) (o := .cells #[.int .i64 ((rd_T66 l0_3 a1).f0), .int .i64 ((rd_T66 l0_3 a1).f1), .int .i64 ((rd_T66 l0_3 a1).f2), .int .i64 ((rd_T66 l0_3 a1).f3)] 66 (0, 0)) (zc BK134) hb)
         replace HB := zh (below_step zb hb)
         (try clear hb)
         (try clear hb2)
         (try clear hk)
         (try clear hi)
         have p32 : 0 ≤ (x11_2 : Int) := of_decide_eq_true zs
         have q32 : (x11_2 : Int) < ((x10_2.length : Int) : Int) := of_decide_eq_true zs
         obtain ⟨go32, co32, eo32, gb32, gl32, cl32, HG32⟩ := Kd.R_form HO_10.out (by omega)
         (first | cases eo32 | (injection eo32 with ea_ en_ ec_; (first | subst ea_ | (injection ea_ with ea_; subst ea_)); subst ec_; clear en_))
         have GB32 := zh gb32
         have GG32 := zh HG32
         clear gb32 gl32 HG32
         (first | simp only [add_plain] at hx150_0 | skip)
         obtain ⟨hx32_0, hf32_0⟩ := Kd.R_celln 0 HO_10.out (x11_2 : Int) p32 q32
         replace p32 := eq_true p32
         replace q32 := eq_true q32
         have HP36 := Kd.R_putn HO_10.out (x11_2 : Int) t151
         rw [← Ny152.out] at HP36
         have HQ36 := zh HP36
         clear HP36
         refine hK.out _ _ ⟨vb BK132 0, vb BK132 1, vb BK132 2, vb BK132 3, vb BK134 0, vb BK134 1, vb BK134 2, vb BK134 3, HS8_⟩ (fun hHeld => ?_)
         clear hK K
         refine zr 67 _ ?_
         refine zu 9 ?_
         refine zq 10 (fun K hK => ?_)
         refine skip_ (w1 := ?_) (by rfl) rfl ?_ ?_
         rotate_left
         ·go_simp
          rfl
         refine hK.out _ _ ?_
         clear hK K
         refine zd ?_
         try go_wp2
         go_roundg k2
         case measure => have := HJ6.out; have := HK2.out; omega
         case rel => exact ⟨(y152), (wrap64 (x11_2 + 1)), ze, H', ⟨zw HJ6 HK2⟩, ⟨by (with_reducible repeat (first | apply Kd.R_alloc | apply Kd.R_drewN | apply Kd.R_drew)); exact HQ36.out⟩, ⟨by (with_reducible repeat (first | refine blk_drewN ?_ _ | refine blk_drew ?_ | refine blk_alloc ?_ _)); refine blk_far ?_ (by have h_ := Kd.R_ne HO_10.out BK132.out (by decide); intro e_; exact h_ (by rw [e_]; rfl)) _; (with_reducible repeat (first | refine blk_drewN ?_ _ | refine blk_drew ?_ | refine blk_alloc ?_ _)); exact BK132.out⟩, ⟨by (with_reducible repeat (first | refine blk_drewN ?_ _ | refine blk_drew ?_ | refine blk_alloc ?_ _)); refine blk_far ?_ (by have h_ := Kd.R_ne HO_10.out BK134.out (by decide); intro e_; exact h_ (by rw [e_]; rfl)) _; (with_reducible repeat (first | refine blk_drewN ?_ _ | refine blk_drew ?_ | refine blk_alloc ?_ _)); exact BK134.out⟩, ⟨zb⟩⟩
        ·rw [if_neg c30] at H
         exact absurd H (by simp)
       ·rw [if_neg c29] at H
        have c29b0 : decide (x11_2 < (x10_2.length : Int)) = false := decide_eq_false c29
        clear c29
        obtain rfl := Option.some.inj H
        obtain ⟨Ao37, co37, eo37⟩ := Kd.R_slice HO_10.out
        subst eo37
        go_wp2
        go_ret
        exact ⟨_, zf, (zR HO_10), zb⟩
  ·rw [if_neg c6] at H
   exact absurd H (by simp)
 ·rw [if_neg c5] at H
  exact absurd H (by simp)
end Go.Proofs.YtagkfkdoibnhfaaDoor.H
end
section
namespace Go.Proofs.YtagkfkdoibnhfaaDoor.H
open Go.RowKit Go.Proofs.YtagkfkdoibnhfaaDoorW.PrintWords Go.Proofs.YtagkfkdoibnhfaaDoorW.PrintLast Go.Proofs.YtagkfkdoibnhfaaDoorW.PrintMore
attribute [local go_sem] max2_int min2_int max_two min_two max_three min_three max_four min_four   -- for this text's walks alone
set_option linter.unusedVariables false
set_option linter.unusedSimpArgs false
def saronref06_part.l0 : Nat → List Int → Int → List Int → Int → Int → Int → Int → List (S66) → Option (List Int)
 | 0, _, _, _, _, _, _, _, _ => none
 | k + 1, x1, x2, x7, x8, x154000, x154001, x154002, x154003 => if x8 < (x1.length : Int) then (if 0 ≤ x8 then (if 0 ≤ (wrap64 (x8 + 1)) then (if (wrap64 (x8 + 1)) < (x1.length : Int) then ((saronref06_bar.f k x154000 x154001 x154002 x154003 x2 (rd x1 x8) (rd x1 (wrap64 (x8 + 1)))).bind fun t156 => (if x7.length + t156.length < 17592186044416 then (saronref06_part.l0 k x1 x2 (x7 ++ t156) (wrap64 (x8 + 2)) x154000 x154001 x154002 x154003) else (none))) else (none)) else (none)) else (none)) else (some x7)
def saronref06_part.f (k : Nat) (a0_0 : Int) (a0_1 : Int) (a0_2 : Int) (l0_3 : List (S66)) (l1 : List Int) (a2 : Int) : Option (List Int) := saronref06_part.l0 k l1 a2 ([] : List Int) 0 a0_0 a0_1 a0_2 l0_3
def saronref06_part.T5 : Bool × List (List Nat × List Nat) := (true, [([], []), ([], []), ([], []), ([], []), ([], []), ([3, 4], [3, 4]), ([5], [5]), ([], []), ([], []), ([8], [8]), ([7, 9], [7, 9]), ([10], [10]), ([1, 2, 6, 11], [1, 2, 6, 11]), ([0, 12, 12], [0, 12]), ([13, 13, 0, 1, 2, 3, 4, 5, 6, 7, 8, 9, 10, 11, 12, 13], [0, 13])])
def saronref06_part.B5 : List Nat := [0, 0, 0, 0, 0, 24, 56, 0, 0, 256, 896, 1920, 4094, 8191, 16383]
theorem saronref06_part.tab5 : rtab .any (opsOf Tryd.f59 5) = saronref06_part.T5 := by kernel_rfl
theorem saronref06_part.bits5 : waitsOk saronref06_part.T5.2 saronref06_part.B5 = true := by kernel_rfl
set_option maxHeartbeats 8000000 in
set_option maxRecDepth 100000 in
theorem saronref06_part.calls (k : Nat) (a0_0 : Int) (a0_1 : Int) (a0_2 : Int) (A0_3 : Option Addr) (c0_3 : Nat) (l0_3 : List (S66)) (A1 : Option Addr) (c1 : Nat) (l1 : List Int) (a2 : Int) (r : List Int) (w : World) (hr0_3 : Kd.C k66 w A0_3 l0_3.length l0_3) (hc0_3 : l0_3.length ≤ c0_3) (hr1 : Kd.C (Kd.int .i64) w A1 l1.length l1) (hc1 : l1.length ≤ c1) (h : saronref06_part.f k a0_0 a0_1 a0_2 l0_3 l1 a2 = some r) :
  Calls Tryd.prog 59 #[.agg #[.int .i64 a0_0, .int .i64 a0_1, .int .i64 a0_2, .slice A0_3 l0_3.length c0_3], .slice A1 l1.length c1, .int .i64 a2] w fun e w' => ∃ v0_ : Value, e = .returned (v0_) ∧ Kd.R (Kd.int .i64) 3 w' w.heap.size (fun _ => True) v0_ r ∧ Below w.heap.size w w' := by
 have hu24 := Tryd.underlying24
 have HR0_3 := zh hr0_3
 have HC0_3 := zh hc0_3
 clear hr0_3 hc0_3
 have HR1 := zh hr1
 have HC1 := zh hc1
 clear hr1 hc1
 have HB := zh (Below.refl w.heap.size w)
 have H : (saronref06_part.l0 k l1 a2 ([] : List Int) 0 a0_0 a0_1 a0_2 l0_3) = some r := h
 clear h
 have H' := zh H
 clear H
 go_enter Tryd.func59, Tryd.ntmps59
 go_wp2_with (first | ((with_reducible refine gate_dst (N := 3) rfl ?_); refine box_event ?hg (N := 3) ?hd (cs := #[.int .i64 a0_0, .int .i64 a0_1, .int .i64 a0_2, .slice A0_3 l0_3.length c0_3]) (t := 24) ?hr ?_; (case hd => rfl); (case hg => rfl); (case hr => first | (go_simp; done) | (go_simp; rfl)); intro gb153 hg w4 hbox hb; have n0_ := zh (below_step zb hb); have n1_ := zh (hbox); have n2_ := zh ((by rw [hg]; exact (below_size zb) : w.heap.size ≤ gb153)); have n3_ := zh ((by rw [hg]; exact (below_size zb) : w.heap.size ≤ gb153)); clear HB; have HB := n0_; have BK153 := n1_; have GW153 := n2_; have GE153 := n3_; clear n0_ n1_ n2_ n3_; clear hb hbox hg))
 go_loopg [7, 8] k (fun kq v7 v8 w' => ∃ (x7_1 : List Int) (x8_1 : Int), v8 = .int .i64 x8_1 ∧ Aside0 (saronref06_part.l0 kq l1 a2 x7_1 x8_1 a0_0 a0_1 a0_2 l0_3 = some r) ∧ Aside0 (kq ≤ k) ∧ Aside0 (Kd.R (Kd.int .i64) 3 w' w.heap.size (fun _ => True) v7 x7_1) ∧ Aside0 (w'.heap[gb153]? = some (.cells #[.int .i64 a0_0, .int .i64 a0_1, .int .i64 a0_2, (.slice A0_3 l0_3.length c0_3)] 24 (0, 0))) ∧ Aside0 (Below w.heap.size w w'))
 case atStart => exact ⟨(([] : List Int)), (0), ze, H', ⟨Nat.le_refl _⟩, ⟨by first | exact Kd.R_nil _ _ _ _ _ | exact Kd.N_nil _ _ _ _ _ | exact Kd.V_nil _ _ _ _ _ | exact Kd.Q_nil _ _ _ _ _ | exact Kd.S_nil _ _ _ _ _⟩, ⟨zc BK153⟩, ⟨zb⟩⟩
 case round =>
  clear H'
  try clear c1
  try clear p2
  obtain ⟨x7_1, x8_1, rfl, HA, HK1, HO_7, BK153, HB⟩ := hrel
  cases gk with
  | zero => exact absurd HA.out (by simp [saronref06_part.l0])
  | succ k1 =>
   have H := HA.out
   clear HA
   simp only [saronref06_part.l0] at H
   by_cases c5 : x8_1 < (l1.length : Int)
   ·rw [if_pos c5] at H
    have c5b0 : decide (x8_1 < (l1.length : Int)) = true := decide_eq_true c5
    clear c5
    by_cases c6 : 0 ≤ x8_1
    ·rw [if_pos c6] at H
     have c6b0 : decide (0 ≤ x8_1) = true := decide_eq_true c6
     clear c6
     obtain ⟨ji7, hji7⟩ : ∃ j_ : Int, (wrap64 (x8_1 + 1)) = j_ := ⟨_, rfl⟩
     replace H : (if 0 ≤ (ji7) then (if (ji7) < (l1.length : Int) then ((saronref06_bar.f k1 a0_0 a0_1 a0_2 l0_3 a2 (rd l1 x8_1) (rd l1 (ji7))).bind fun t156 => (if x7_1.length + t156.length < 17592186044416 then (saronref06_part.l0 k1 l1 a2 (x7_1 ++ t156) (wrap64 (x8_1 + 2)) a0_0 a0_1 a0_2 l0_3) else (none))) else (none)) else (none)) = some r := by first | (rw [hji7] at H; exact H) | (simp only [hji7] at H ⊢; exact H)
     have hji7w : (IntKind.i64.wrap (x8_1 + 1)) = ji7 := (i64_w _).trans hji7
     by_cases c8 : 0 ≤ (ji7)
     ·rw [if_pos c8] at H
      have c8b0 : decide (0 ≤ (ji7)) = true := decide_eq_true c8
      clear c8
      by_cases c9 : (ji7) < (l1.length : Int)
      ·rw [if_pos c9] at H
       have c9b0 : decide ((ji7) < (l1.length : Int)) = true := decide_eq_true c9
       clear c9
       replace H := Option.bind_eq_some_iff.mp H
       obtain ⟨t156, A100, H⟩ := H
       replace H : (if x7_1.length + t156.length < 17592186044416 then (saronref06_part.l0 k1 l1 a2 (x7_1 ++ t156) (wrap64 (x8_1 + 2)) a0_0 a0_1 a0_2 l0_3) else (none)) = some r := H
       have A10 := zh A100
       clear A100
       by_cases c11 : x7_1.length + t156.length < 17592186044416
       ·rw [if_pos c11] at H
        have LMc11 := zh c11
        clear c11
        obtain ⟨y159, hy159⟩ : ∃ y_ : List Int, y_ = (x7_1 ++ t156) := ⟨_, rfl⟩
        replace H : (saronref06_part.l0 k1 l1 a2 y159 (wrap64 (x8_1 + 2)) a0_0 a0_1 a0_2 l0_3) = some r := by first | (rw [hy159]; with_reducible exact H) | (have H2_ := (Option.bind_some _ _).symm.trans H; rw [hy159]; with_reducible exact H2_) | (have H2_ := (Option.bind_some _ _).symm.trans H; with_reducible exact H2_) | with_reducible exact H | (rw [hy159]; exact H) | exact H
        have Ny159 := zh hy159
        clear hy159
        have H' := zh H
        clear H
        try go_wp2
        replace HO_7 := zh (Kd.R_drew HO_7.out)
        replace BK153 := zh (blk_drew BK153.out)
        replace HB := zh (below_drew1 HB.out)
        have p154 : 0 ≤ (x8_1 : Int) := of_decide_eq_true zs
        have q154 : x8_1 < (l1.length : Int) := of_decide_eq_true zs
        obtain ⟨ad154, e154, hx154_0⟩ := Kd.at_int HR1.out x8_1 p154 q154
        have hw154_0 := hx154_0
        cases e154
        replace hx154_0 := ve HB.out hx154_0
        replace p154 := eq_true p154
        replace q154 := eq_true q154
        have p155 : 0 ≤ ((ji7) : Int) := of_decide_eq_true zs
        have q155 : (ji7) < (l1.length : Int) := of_decide_eq_true zs
        obtain ⟨ad155, e155, hx155_0⟩ := Kd.at_int HR1.out (ji7) p155 q155
        have hw155_0 := hx155_0
        obtain rfl : ad154 = ad155 := (by injection e155)
        replace hx155_0 := ve HB.out hx155_0
        replace p155 := eq_true p155
        replace q155 := eq_true q155
        refine start_ (n := 15) (S := fun w' => w'.cell? ⟨gb153, 0, none⟩ = some (.int .i64 a0_0) ∧ w'.cell? ⟨gb153, 1, none⟩ = some (.int .i64 a0_1) ∧ w'.cell? ⟨gb153, 2, none⟩ = some (.int .i64 a0_2) ∧ w'.cell? ⟨gb153, 3, none⟩ = some (.slice A0_3 l0_3.length c0_3) ∧ w'.cell? (ad154.add (x8_1).toNat) = some (.int .i64 (rd l1 x8_1)) ∧ w'.cell? (ad154.add ((ji7)).toNat) = some (.int .i64 (rd l1 (ji7)))) (ds := []) (Array.replicate 15 false) zk rfl rfl ⟨vb BK153 0, vb BK153 1, vb BK153 2, vb BK153 3, (ve HB.out hw154_0 :), (ve HB.out hw155_0 :)⟩ (fun hHeld => ?_); refine with_tabW saronref06_part.tab5 saronref06_part.bits5 (fun HT_ HW_ => ?_)
        generalize wr.drew = w12 at HO_7 BK153 HB hx154_0 hx155_0 hHeld ⊢
        refine zu 0 ?_
        refine zu 2 ?_
        refine zu 3 ?_
        refine zu 4 ?_
        refine zu 5 ?_
        refine zu 7 ?_
        refine zu 8 ?_
        refine zu 9 ?_
        refine zu 10 ?_
        refine zt 1 ?_
        refine zt 6 ?_
        refine zt 11 ?_
        refine zo 12 (fun K hK => ?_)
        refine goes_ Tryd.func81 zk rfl #[.agg #[.int .i64 a0_0, .int .i64 a0_1, .int .i64 a0_2, .slice A0_3 l0_3.length c0_3], .int .i64 a2, .int .i64 (rd l1 x8_1), .int .i64 (rd l1 (ji7))] (by rfl) rfl rfl (by (try simp only [List.map_toArray, List.map_cons, List.map_nil]); first | done | (simp only [hji7]; rfl) | rfl | (simp only [List.length_drop, List.length_take]; rfl)) ?_
        with_reducible refine (saronref06_bar.calls k1 a0_0 a0_1 a0_2 _ _ l0_3 a2 (rd l1 x8_1) (rd l1 (ji7)) t156 _ ?side1 ?side2 A10.out).mono ?_
        (case side1 => repeat (first | exact (Kd.C_below HR0_3.out HB.out) | (with_reducible refine Kd.C_alloc ?_ _) | (with_reducible refine Kd.C_drewN ?_ _) | (with_reducible refine Kd.C_drew ?_)))
        (case side2 => exact HC0_3.out)
        rintro e w13 ⟨v157, rfl, ho0, hb⟩
        refine ⟨_, rfl, ?_⟩
        have HO158 := zh (Kd.R_lower (Kd.R_new' ho0 (Kd.R_lt (zR HO_7))) (below_size zb))
        replace HO_7 := zh (Kd.R_elder' (zR HO_7) (Kd.R_base ho0) hb)
        replace BK153 := zh (blk_below (g := gb153) (o := .cells #[.int .i64 a0_0, .int .i64 a0_1, .int .i64 a0_2, .slice A0_3 l0_3.length c0_3] 24 (0, 0)) (zc BK153) hb)
        replace HB := zh (below_step zb hb)
        (try clear hb)
        (try clear hb2)
        (try clear hk)
        (try clear hi)
        (try clear ho0)
        obtain ⟨Ao15, co15, eo15⟩ := Kd.R_slice HO158.out
        (first | subst eo15 | (injection eo15 with f1_ f2_ f3_; have f4_ := f1_.symm; have f5_ := f3_.symm; clear f1_ f2_ f3_; subst f4_; subst f5_))
        refine hK.out _ _ ⟨vb BK153 0, vb BK153 1, vb BK153 2, vb BK153 3, (ve HB.out hw154_0 :), (ve HB.out hw155_0 :)⟩ (fun hHeld => ?_)
        clear hK K
        refine zr 27 _ ?_
        refine zo 13 (fun K hK => ?_)
        refine Kd.R_append_rows_step (Kd.int .i64) (w0 := w) w.heap.size (by rfl) (.tmp 15) (.tmp 27) 25 3 (.int .i64 0) 8 rfl Tryd.underlying25 info3 rfl (by decide) (by omega) u7 x7_1 t156 _ _ _ (fun k_ => some k_ ≠ (.slice Ao15 t156.length co15 : Value).ownBlock) (fun _ => False) rfl rfl ?aO ?aR (fun _ _ h => h) (fun _ h => h.elim) ?aF ?aB ?aS ?aL ?_
        (case aR => repeat (first | exact (Kd.R_reads' HO158.out).2.2 | (with_reducible refine Kd.C_alloc ?_ _) | (with_reducible refine Kd.C_drewN ?_ _) | (with_reducible refine Kd.C_drew ?_)))
        (case aB => exact zb)
        (case aF => exact (fun k_ hk => Kd.fresh' (Kd.R_lt (zR HO158)) k_ hk))
        (case aO => exact (by (with_reducible repeat (first | apply Kd.R_alloc | apply Kd.R_drewN | apply Kd.R_drew)); exact Kd.R_mono HO_7.out (fun _ hk => hk.2)))
        (case aS => exact (below_size zb))
        (case aL => have := LMc11.out; omega)
        intro v160 w14 ho hb hg hat
        rw [← Ny159.out] at ho
        replace BK153 := zh (blk_grown (g := gb153) (o := .cells #[.int .i64 a0_0, .int .i64 a0_1, .int .i64 a0_2, .slice A0_3 l0_3.length c0_3] 24 (0, 0)) (zc BK153) hg (Kd.R_ne HO_7.out BK153.out (by decide)))
        replace HO158 := zh (Kd.R_after (ok := (fun _ => True)) (zR HO158) hg hat)
        replace HB := zh (hb)
        have HO161 := zh (ho)
        clear HO_7 ho hb hg hat
        refine hK.out _ _ ⟨vb BK153 0, vb BK153 1, vb BK153 2, vb BK153 3, (ve HB.out hw154_0 :), (ve HB.out hw155_0 :)⟩ (fun hHeld => ?_)
        clear hK K
        refine zr 28 _ ?_
        refine zu 14 ?_
        refine zd ?_
        try go_wp2
        go_roundg k1
        case measure => have := HK1.out; omega
        case rel => exact ⟨(y159), (wrap64 (x8_1 + 2)), ze, H', ⟨by have := HK1.out; omega⟩, ⟨by (with_reducible repeat (first | apply Kd.R_alloc | apply Kd.R_drewN | apply Kd.R_drew)); exact Kd.R_mono HO161.out (fun _ hk => trivial)⟩, ⟨zc BK153⟩, ⟨zb⟩⟩
       ·rw [if_neg c11] at H
        exact absurd H (by simp)
      ·rw [if_neg c9] at H
       exact absurd H (by simp)
     ·rw [if_neg c8] at H
      exact absurd H (by simp)
    ·rw [if_neg c6] at H
     exact absurd H (by simp)
   ·rw [if_neg c5] at H
    have c5b0 : decide (x8_1 < (l1.length : Int)) = false := decide_eq_false c5
    clear c5
    obtain rfl := Option.some.inj H
    go_wp2
    go_ret
    exact ⟨_, zf, (zR HO_7), zb⟩
end Go.Proofs.YtagkfkdoibnhfaaDoor.H
end
section
namespace Go.Proofs.YtagkfkdoibnhfaaDoor.H
open Go.RowKit Go.Proofs.YtagkfkdoibnhfaaDoorW.PrintWords Go.Proofs.YtagkfkdoibnhfaaDoorW.PrintLast Go.Proofs.YtagkfkdoibnhfaaDoorW.PrintMore
attribute [local go_sem] max2_int min2_int max_two min_two max_three min_three max_four min_four   -- for this text's walks alone
set_option linter.unusedVariables false
set_option linter.unusedSimpArgs false
mutual
def saronref06_Part.j0 : Nat → List Int → Int → Bool → Int → Int → Int → List (S66) → Option (List Int × Int)
 | 0, _, _, _, _, _, _, _ => none
 | k + 1, x1, x2, x9, x163000, x163001, x163002, x163003 => saronref06_Part.l0 k x1 x2 x9 0 x163000 x163001 x163002 x163003
def saronref06_Part.l0 : Nat → List Int → Int → Bool → Int → Int → Int → Int → List (S66) → Option (List Int × Int)
 | 0, _, _, _, _, _, _, _, _ => none
 | k + 1, x1, x2, x9, x10, x163000, x163001, x163002, x163003 => if x9 = true then (saronref06_Part.j2 k x1 x2 x9 x10 (decide (x10 < (x1.length : Int))) x163000 x163001 x163002 x163003) else (saronref06_Part.j2 k x1 x2 x9 x10 false x163000 x163001 x163002 x163003)
def saronref06_Part.j2 : Nat → List Int → Int → Bool → Int → Bool → Int → Int → Int → List (S66) → Option (List Int × Int)
 | 0, _, _, _, _, _, _, _, _, _ => none
 | k + 1, x1, x2, x9, x10, x35, x163000, x163001, x163002, x163003 => if x35 = true then (if 0 ≤ x10 then (if x10 < (x1.length : Int) then ((saronref06_tones.f x163000 x163001 x163002 x163003).bind fun t166 => ((saronref00_Sits.f (rd x1 x10) 0 (wrap64 (t166 - 1))).bind fun t167 => (saronref06_Part.l0 k x1 x2 t167 (wrap64 (x10 + 1)) x163000 x163001 x163002 x163003))) else (none)) else (none)) else (if x9 = true then ((saronref06_part.f k x163000 x163001 x163002 x163003 x1 x2).bind fun t168 => (some (t168, 0))) else (some (([] : List Int), 61)))
end
def saronref06_Part.f (k : Nat) (a0_0 : Int) (a0_1 : Int) (a0_2 : Int) (l0_3 : List (S66)) (l1 : List Int) (a2 : Int) : Option (List Int × Int) := (saronref06_Check.f k a0_0 a0_1 a0_2 l0_3).bind fun t163 => (if t163 = 0 then (if (l1.length : Int) = a0_2 then ((saronref00_Sits.f a2 0 (wrap64 ((l0_3.length : Int) - 1))).bind fun t164 => (saronref06_Part.j0 k l1 a2 t164 a0_0 a0_1 a0_2 l0_3)) else (saronref06_Part.j0 k l1 a2 false a0_0 a0_1 a0_2 l0_3)) else (some (([] : List Int), t163)))
def saronref06_Part.T8 : Bool × List (List Nat × List Nat) := (true, [([], []), ([], []), ([0, 1], [0, 1]), ([2], [2]), ([], []), ([4], [4]), ([5], [5]), ([3, 6, 5], [3, 6]), ([7, 7, 0, 1, 2, 3, 4, 5, 6, 7], [7])])
def saronref06_Part.B8 : List Nat := [0, 0, 3, 7, 0, 16, 48, 127, 255]
theorem saronref06_Part.tab8 : rtab .any (opsOf Tryd.f17 8) = saronref06_Part.T8 := by kernel_rfl
theorem saronref06_Part.bits8 : waitsOk saronref06_Part.T8.2 saronref06_Part.B8 = true := by kernel_rfl
set_option maxHeartbeats 8000000 in
set_option maxRecDepth 100000 in
theorem saronref06_Part.calls (k : Nat) (a0_0 : Int) (a0_1 : Int) (a0_2 : Int) (A0_3 : Option Addr) (c0_3 : Nat) (l0_3 : List (S66)) (A1 : Option Addr) (c1 : Nat) (l1 : List Int) (a2 : Int) (r1 : List Int) (r2 : Int) (w : World) (hr0_3 : Kd.C k66 w A0_3 l0_3.length l0_3) (hc0_3 : l0_3.length ≤ c0_3) (hr1 : Kd.C (Kd.int .i64) w A1 l1.length l1) (hc1 : l1.length ≤ c1) (h : saronref06_Part.f k a0_0 a0_1 a0_2 l0_3 l1 a2 = some (r1, r2)) :
  Calls Tryd.prog 17 #[.agg #[.int .i64 a0_0, .int .i64 a0_1, .int .i64 a0_2, .slice A0_3 l0_3.length c0_3], .slice A1 l1.length c1, .int .i64 a2] w fun e w' => ∃ v0_ : Value, e = .returned (.tuple #[v0_, .int .i64 r2]) ∧ Kd.R (Kd.int .i64) 3 w' w.heap.size (fun _ => True) v0_ r1 ∧ Below w.heap.size w w' := by
 have hu24 := Tryd.underlying24
 have HR0_3 := zh hr0_3
 have HC0_3 := zh hc0_3
 clear hr0_3 hc0_3
 have HR1 := zh hr1
 have HC1 := zh hc1
 clear hr1 hc1
 have HB := zh (Below.refl w.heap.size w)
 have H : ((saronref06_Check.f k a0_0 a0_1 a0_2 l0_3).bind fun t163 => (if t163 = 0 then (if (l1.length : Int) = a0_2 then ((saronref00_Sits.f a2 0 (wrap64 ((l0_3.length : Int) - 1))).bind fun t164 => (saronref06_Part.j0 k l1 a2 t164 a0_0 a0_1 a0_2 l0_3)) else (saronref06_Part.j0 k l1 a2 false a0_0 a0_1 a0_2 l0_3)) else (some (([] : List Int), t163)))) = some (r1, r2) := h
 clear h
 replace H := Option.bind_eq_some_iff.mp H
 obtain ⟨t163, A40, H⟩ := H
 replace H : (if t163 = 0 then (if (l1.length : Int) = a0_2 then ((saronref00_Sits.f a2 0 (wrap64 ((l0_3.length : Int) - 1))).bind fun t164 => (saronref06_Part.j0 k l1 a2 t164 a0_0 a0_1 a0_2 l0_3)) else (saronref06_Part.j0 k l1 a2 false a0_0 a0_1 a0_2 l0_3)) else (some (([] : List Int), t163))) = some (r1, r2) := H
 have A4 := zh A40
 clear A40
 by_cases c5 : t163 = 0
 ·rw [if_pos c5] at H
  have c5b0 : (t163 == 0) = true := beq_iff_eq.mpr c5
  have c5b1 : (t163 != 0) = false := bne_eq_false_iff_eq.mpr c5
  clear c5
  have HC6 := zh H
  clear H
  go_enter Tryd.func17, Tryd.ntmps17
  go_upto_region 4 with (first | ((with_reducible refine gate_dst (N := 3) rfl ?_); (try (refine gate_guard (by rfl) ?_; dsimp only)); refine box_event ?hg (N := 3) ?hd (cs := #[.int .i64 a0_0, .int .i64 a0_1, .int .i64 a0_2, .slice A0_3 l0_3.length c0_3]) (t := 24) ?hr ?_; (case hd => rfl); (case hg => rfl); (case hr => first | (go_simp; done) | (go_simp; rfl)); intro gb162 hg w7 hbox hb; have n0_ := zh (below_step zb hb); have n1_ := zh (hbox); have n2_ := zh ((by rw [hg]; exact (below_size zb) : w.heap.size ≤ gb162)); have n3_ := zh ((by rw [hg]; exact (below_size zb) : w.heap.size ≤ gb162)); clear HB; have HB := n0_; have BK162 := n1_; have GW162 := n2_; have GE162 := n3_; clear n0_ n1_ n2_ n3_; clear hb hbox hg; have hcz8_0 : w7.cell? ⟨gb162, 0, none⟩ = some (.int .i64 a0_0) := vb BK162 0; have hcz8_1 : w7.cell? ⟨gb162, 1, none⟩ = some (.int .i64 a0_1) := vb BK162 1; have hcz8_2 : w7.cell? ⟨gb162, 2, none⟩ = some (.int .i64 a0_2) := vb BK162 2; have hcz8_3 : w7.cell? ⟨gb162, 3, none⟩ = some (.slice A0_3 l0_3.length c0_3) := vb BK162 3; have hfz8_0 := blk_frozen BK162.out 0; have hfz8_1 := blk_frozen BK162.out 1; have hfz8_2 := blk_frozen BK162.out 2; have hfz8_3 := blk_frozen BK162.out 3) | ((with_reducible refine gate_callee (f := 20) rfl ?_); refine goesL_ (some 12) rfl rfl Tryd.func20 zk rfl #[.agg #[.int .i64 a0_0, .int .i64 a0_1, .int .i64 a0_2, .slice A0_3 l0_3.length c0_3]] rfl zm ?_; (with_reducible refine (saronref06_Check.calls k a0_0 a0_1 a0_2 _ _ l0_3 t163 _ ?side1 ?side2 A4.out).mono ?_); (case side1 => repeat (first | exact (Kd.C_below HR0_3.out HB.out) | (with_reducible refine Kd.C_alloc ?_ _) | (with_reducible refine Kd.C_drewN ?_ _) | (with_reducible refine Kd.C_drew ?_))); (case side2 => exact HC0_3.out); rintro e w9 ⟨rfl, hb⟩; refine ⟨_, rfl, ?_⟩; have n0_ := zh (blk_below (g := gb162) (o := .cells #[.int .i64 a0_0, .int .i64 a0_1, .int .i64 a0_2, .slice A0_3 l0_3.length c0_3] 24 (0, 0)) (zc BK162) hb); have n1_ := zh (below_step zb hb); clear BK162; clear HB; have BK162 := n0_; have HB := n1_; clear n0_ n1_; (try clear hb); (try clear hb2); (try clear hk); (try clear hi)))
  (try simp only [Act.put, List.setIfInBounds_toArray, List.set_cons_zero, List.set_cons_succ])
  go_cut [9] (fun v9 wc => ∃ (kq : Nat) (x9_5 : Bool), v9 = .bool x9_5 ∧ Aside0 (saronref06_Part.j0 kq l1 a2 x9_5 a0_0 a0_1 a0_2 l0_3 = some (r1, r2)) ∧ Aside0 (kq ≤ k) ∧ Aside0 (wc.heap[gb162]? = some (.cells #[.int .i64 a0_0, .int .i64 a0_1, .int .i64 a0_2, (.slice A0_3 l0_3.length c0_3)] 24 (0, 0))) ∧ Aside0 (Below w.heap.size w wc))
  case first =>
   have H := HC6.out
   clear HC6
   by_cases c10 : (l1.length : Int) = a0_2
   ·rw [if_pos c10] at H
    have c10b0 : ((l1.length : Int) == a0_2) = true := beq_iff_eq.mpr c10
    have c10b1 : ((l1.length : Int) != a0_2) = false := bne_eq_false_iff_eq.mpr c10
    clear c10
    (first | rw [c10b0] | (simp only [i64_w, i32_w]; rw [c10b0]) | skip)
    replace H := Option.bind_eq_some_iff.mp H
    obtain ⟨t164, A110, H⟩ := H
    replace H : (saronref06_Part.j0 k l1 a2 t164 a0_0 a0_1 a0_2 l0_3) = some (r1, r2) := H
    have A11 := zh A110
    clear A110
    have H' := zh H
    clear H
    have hcz12_0 : w9.cell? ⟨gb162, 0, none⟩ = some (.int .i64 a0_0) := vb BK162 0
    have hcz12_1 : w9.cell? ⟨gb162, 1, none⟩ = some (.int .i64 a0_1) := vb BK162 1
    have hcz12_2 : w9.cell? ⟨gb162, 2, none⟩ = some (.int .i64 a0_2) := vb BK162 2
    have hcz12_3 : w9.cell? ⟨gb162, 3, none⟩ = some (.slice A0_3 l0_3.length c0_3) := vb BK162 3
    have hfz12_0 := blk_frozen BK162.out 0
    have hfz12_1 := blk_frozen BK162.out 1
    have hfz12_2 := blk_frozen BK162.out 2
    have hfz12_3 := blk_frozen BK162.out 3
    go_wp2_with (first | (go_at_call 45; (with_reducible refine (saronref00_Sits.calls a2 0 (wrap64 ((l0_3.length : Int) - 1)) t164 _ A11.out).mono ?_); rintro e w' ⟨rfl, ⟨nd, rfl⟩⟩))
    go_meet
    case rel => exact ⟨_, (t164), ze, H', ⟨zo1⟩, ⟨zc BK162⟩, ⟨zb⟩⟩
   ·rw [if_neg c10] at H
    have c10b0 : ((l1.length : Int) == a0_2) = false := beq_eq_false_iff_ne.mpr c10
    have c10b1 : ((l1.length : Int) != a0_2) = true := bne_iff_ne.mpr c10
    (first | rw [c10b0] | (simp only [i64_w, i32_w]; rw [c10b0]) | skip)
    have H' := zh H
    clear H
    have hcz13_0 : w9.cell? ⟨gb162, 0, none⟩ = some (.int .i64 a0_0) := vb BK162 0
    have hcz13_1 : w9.cell? ⟨gb162, 1, none⟩ = some (.int .i64 a0_1) := vb BK162 1
    have hcz13_2 : w9.cell? ⟨gb162, 2, none⟩ = some (.int .i64 a0_2) := vb BK162 2
    have hcz13_3 : w9.cell? ⟨gb162, 3, none⟩ = some (.slice A0_3 l0_3.length c0_3) := vb BK162 3
    have hfz13_0 := blk_frozen BK162.out 0
    have hfz13_1 := blk_frozen BK162.out 1
    have hfz13_2 := blk_frozen BK162.out 2
    have hfz13_3 := blk_frozen BK162.out 3
    go_wp2
    go_meet
    case rel => exact ⟨_, (false), ze, H', ⟨zo1⟩, ⟨zc BK162⟩, ⟨zb⟩⟩
  case rest =>
   clear HC6
   try clear c1
   try clear c2
   try clear p2
   try clear c5
   try clear c5b0
   try clear c5b1
   try clear p6
   try clear c10
   try clear c10b0
   try clear c10b1
   try clear hcz12_0
   try clear hcz12_1
   try clear hcz12_2
   try clear hcz12_3
   try clear hcz13_0
   try clear hcz13_1
   try clear hcz13_2
   try clear hcz13_3
   try clear hcz8_0
   try clear hcz8_1
   try clear hcz8_2
   try clear hcz8_3
   try clear hfz12_0
   try clear hfz12_1
   try clear hfz12_2
   try clear hfz12_3
   try clear hfz13_0
   try clear hfz13_1
   try clear hfz13_2
   try clear hfz13_3
   try clear hfz8_0
   try clear hfz8_1
   try clear hfz8_2
   try clear hfz8_3
   obtain ⟨kq, x9_5, rfl, HA, HJ5, BK162, HB⟩ := hcut
   cases kq with
   | zero => exact absurd HA.out (by simp [saronref06_Part.j0])
   | succ kj5 =>
    have H := HA.out
    clear HA
    simp only [saronref06_Part.j0] at H
    have H' := zh H
    clear H
    go_wp2
    go_loopg [9, 10] kj5 (fun kq v9 v10 w' => ∃ (x9_2 : Bool) (x10_2 : Int), v9 = .bool x9_2 ∧ v10 = .int .i64 x10_2 ∧ Aside0 (saronref06_Part.l0 kq l1 a2 x9_2 x10_2 a0_0 a0_1 a0_2 l0_3 = some (r1, r2)) ∧ Aside0 (kq ≤ kj5) ∧ Aside0 (w'.heap[gb162]? = some (.cells #[.int .i64 a0_0, .int .i64 a0_1, .int .i64 a0_2, (.slice A0_3 l0_3.length c0_3)] 24 (0, 0))) ∧ Aside0 (Below w.heap.size w w'))
    case atStart => exact ⟨(x9_5), (0), ze, ze, H', ⟨Nat.le_refl _⟩, ⟨zc BK162⟩, ⟨zb⟩⟩
    case round =>
     clear H'
     try clear c1
     try clear c2
     try clear p2
     try clear c5
     try clear c5b0
     try clear c5b1
     try clear p6
     try clear c10
     try clear c10b0
     try clear c10b1
     try clear hcz12_0
     try clear hcz12_1
     try clear hcz12_2
     try clear hcz12_3
     try clear hcz13_0
     try clear hcz13_1
     try clear hcz13_2
     try clear hcz13_3
     try clear hcz8_0
     try clear hcz8_1
     try clear hcz8_2
     try clear hcz8_3
     try clear hfz12_0
     try clear hfz12_1
     try clear hfz12_2
     try clear hfz12_3
     try clear hfz13_0
     try clear hfz13_1
     try clear hfz13_2
     try clear hfz13_3
     try clear hfz8_0
     try clear hfz8_1
     try clear hfz8_2
     try clear hfz8_3
     try clear p2
     try clear p6
     obtain ⟨x9_2, x10_2, rfl, rfl, HA, HK2, BK162, HB⟩ := hrel
     cases gk with
     | zero => exact absurd HA.out (by simp [saronref06_Part.l0])
     | succ k2 =>
      have H := HA.out
      clear HA
      simp only [saronref06_Part.l0] at H
      have HC14 := zh H
      clear H
      go_upto_region 6 with (fail)
      go_cut [35] (fun v35 wc => ∃ (kq : Nat) (x35_13 : Bool), v35 = .bool x35_13 ∧ Aside0 (saronref06_Part.j2 kq l1 a2 x9_2 x10_2 x35_13 a0_0 a0_1 a0_2 l0_3 = some (r1, r2)) ∧ Aside0 (kq ≤ k2) ∧ Aside0 (wc.heap[gb162]? = some (.cells #[.int .i64 a0_0, .int .i64 a0_1, .int .i64 a0_2, (.slice A0_3 l0_3.length c0_3)] 24 (0, 0))) ∧ Aside0 (Below w.heap.size w wc))
      case first =>
       have H := HC14.out
       clear HC14
       by_cases c15 : x9_2 = true
       ·subst c15
        have H1 : (saronref06_Part.j2 k2 l1 a2 true x10_2 (decide (x10_2 < (l1.length : Int))) a0_0 a0_1 a0_2 l0_3) = some (r1, r2) := by rw [if_pos rfl] at H; exact H
        clear H
        have H := H1
        clear H1
        have H' := zh H
        clear H
        go_wp2
        go_meet
        case rel => exact ⟨_, (decide (x10_2 < (l1.length : Int))), ze, H', ⟨by have := HJ5.out; have := HK2.out; first | omega | exact Nat.le_refl _⟩, ⟨zc BK162⟩, ⟨zb⟩⟩
       ·replace c15 := Bool.eq_false_iff.mpr c15
        subst c15
        have H1 : (saronref06_Part.j2 k2 l1 a2 false x10_2 false a0_0 a0_1 a0_2 l0_3) = some (r1, r2) := by rw [if_neg (show ¬ (false = true) by decide)] at H; exact H
        clear H
        have H := H1
        clear H1
        have H' := zh H
        clear H
        go_wp2
        go_meet
        case rel => exact ⟨_, (false), ze, H', ⟨by have := HJ5.out; have := HK2.out; first | omega | exact Nat.le_refl _⟩, ⟨zc BK162⟩, ⟨zb⟩⟩
      case rest =>
       clear HC14
       try clear c1
       try clear c2
       try clear p2
       try clear c5
       try clear c5b0
       try clear c5b1
       try clear p6
       try clear c10
       try clear c10b0
       try clear c10b1
       try clear c15
       try clear hcz12_0
       try clear hcz12_1
       try clear hcz12_2
       try clear hcz12_3
       try clear hcz13_0
       try clear hcz13_1
       try clear hcz13_2
       try clear hcz13_3
       try clear hcz8_0
       try clear hcz8_1
       try clear hcz8_2
       try clear hcz8_3
       try clear hfz12_0
       try clear hfz12_1
       try clear hfz12_2
       try clear hfz12_3
       try clear hfz13_0
       try clear hfz13_1
       try clear hfz13_2
       try clear hfz13_3
       try clear hfz8_0
       try clear hfz8_1
       try clear hfz8_2
       try clear hfz8_3
       try clear p2
       try clear p6
       obtain ⟨kq, x35_13, rfl, HA, HJ13, BK162, HB⟩ := hcut
       cases kq with
       | zero => exact absurd HA.out (by simp [saronref06_Part.j2])
       | succ kj13 =>
        have H := HA.out
        clear HA
        simp only [saronref06_Part.j2] at H
        by_cases c16 : x35_13 = true
        ·subst c16
         have H1 : (if 0 ≤ x10_2 then (if x10_2 < (l1.length : Int) then ((saronref06_tones.f a0_0 a0_1 a0_2 l0_3).bind fun t166 => ((saronref00_Sits.f (rd l1 x10_2) 0 (wrap64 (t166 - 1))).bind fun t167 => (saronref06_Part.l0 kj13 l1 a2 t167 (wrap64 (x10_2 + 1)) a0_0 a0_1 a0_2 l0_3))) else (none)) else (none)) = some (r1, r2) := by rw [if_pos rfl] at H; exact H
         clear H
         have H := H1
         clear H1
         by_cases c17 : 0 ≤ x10_2
         ·rw [if_pos c17] at H
          have c17b0 : decide (0 ≤ x10_2) = true := decide_eq_true c17
          clear c17
          by_cases c18 : x10_2 < (l1.length : Int)
          ·rw [if_pos c18] at H
           have c18b0 : decide (x10_2 < (l1.length : Int)) = true := decide_eq_true c18
           clear c18
           replace H := Option.bind_eq_some_iff.mp H
           obtain ⟨t166, A190, H⟩ := H
           replace H : ((saronref00_Sits.f (rd l1 x10_2) 0 (wrap64 (t166 - 1))).bind fun t167 => (saronref06_Part.l0 kj13 l1 a2 t167 (wrap64 (x10_2 + 1)) a0_0 a0_1 a0_2 l0_3)) = some (r1, r2) := H
           have A19 := zh A190
           clear A190
           replace H := Option.bind_eq_some_iff.mp H
           obtain ⟨t167, A200, H⟩ := H
           replace H : (saronref06_Part.l0 kj13 l1 a2 t167 (wrap64 (x10_2 + 1)) a0_0 a0_1 a0_2 l0_3) = some (r1, r2) := H
           have A20 := zh A200
           clear A200
           have H' := zh H
           clear H
           try go_wp2
           replace BK162 := zh (blk_drew BK162.out)
           replace HB := zh (below_drew1 HB.out)
           have p165 : 0 ≤ (x10_2 : Int) := of_decide_eq_true zs
           have q165 : x10_2 < (l1.length : Int) := of_decide_eq_true zs
           obtain ⟨ad165, e165, hx165_0⟩ := Kd.at_int HR1.out x10_2 p165 q165
           have hw165_0 := hx165_0
           cases e165
           replace hx165_0 := ve HB.out hx165_0
           replace p165 := eq_true p165
           replace q165 := eq_true q165
           refine start_ (n := 9) (S := fun w' => w'.cell? ⟨gb162, 0, none⟩ = some (.int .i64 a0_0) ∧ w'.cell? ⟨gb162, 1, none⟩ = some (.int .i64 a0_1) ∧ w'.cell? ⟨gb162, 2, none⟩ = some (.int .i64 a0_2) ∧ w'.cell? ⟨gb162, 3, none⟩ = some (.slice A0_3 l0_3.length c0_3) ∧ w'.cell? (ad165.add (x10_2).toNat) = some (.int .i64 (rd l1 x10_2))) (ds := []) (Array.replicate 9 false) zk rfl rfl ⟨vb BK162 0, vb BK162 1, vb BK162 2, vb BK162 3, (ve HB.out hw165_0 :)⟩ (fun hHeld => ?_); refine with_tabW saronref06_Part.tab8 saronref06_Part.bits8 (fun HT_ HW_ => ?_)
           generalize wc.drew = w21 at BK162 HB hx165_0 hHeld ⊢
           refine zu 0 ?_
           refine zu 1 ?_
           refine zu 2 ?_
           refine zt 3 ?_
           refine zt 4 ?_
           refine zo 5 (fun K hK => ?_)
           refine goes_ Tryd.func58 zk rfl #[.agg #[.int .i64 a0_0, .int .i64 a0_1, .int .i64 a0_2, .slice A0_3 l0_3.length c0_3]] (by rfl) rfl rfl zm ?_
           with_reducible refine (saronref06_tones.calls a0_0 a0_1 a0_2 _ _ l0_3 t166 _ ?side1 ?side2 A19.out).mono ?_
           (case side1 => repeat (first | exact (Kd.C_below HR0_3.out HB.out) | (with_reducible refine Kd.C_alloc ?_ _) | (with_reducible refine Kd.C_drewN ?_ _) | (with_reducible refine Kd.C_drew ?_)))
           (case side2 => exact HC0_3.out)
           rintro e w22 ⟨rfl, hb⟩
           refine ⟨_, rfl, ?_⟩
           replace BK162 := zh (blk_below (g := gb162) (o := .cells #[.int .i64 a0_0, .int .i64 a0_1, .int .i64 a0_2, .slice A0_3 l0_3.length c0_3] 24 (0, 0)) (zc BK162) hb)
           replace HB := zh (below_step zb hb)
           (try clear hb)
           (try clear hb2)
           (try clear hk)
           (try clear hi)
           refine hK.out _ _ ⟨vb BK162 0, vb BK162 1, vb BK162 2, vb BK162 3, (ve HB.out hw165_0 :)⟩ (fun hHeld => ?_)
           clear hK K
           refine zr 43 _ ?_
           refine zu 6 ?_
           refine zo 7 (fun K hK => ?_)
           refine goes_ Tryd.func45 zk rfl #[.int .i64 (rd l1 x10_2), .int .i64 0, .int .i64 (wrap64 (t166 - 1))] (by rfl) rfl rfl zm ?_
           with_reducible refine (saronref00_Sits.calls (rd l1 x10_2) 0 (wrap64 (t166 - 1)) t167 _ A20.out).mono ?_
           rintro e w' ⟨rfl, ⟨nd, rfl⟩⟩
           refine ⟨_, rfl, ?_⟩
           refine hK.out _ _ ⟨vb BK162 0, vb BK162 1, vb BK162 2, vb BK162 3, (ve HB.out hw165_0 :)⟩ (fun hHeld => ?_)
           clear hK K
           refine zr 45 _ ?_
           refine zu 8 ?_
           refine zd ?_
           try go_wp2
           go_roundg kj13
           case measure => have := HJ5.out; have := HK2.out; have := HJ13.out; omega
           case rel => exact ⟨(t167), (wrap64 (x10_2 + 1)), ze, ze, H', ⟨by have := HJ5.out; have := HK2.out; have := HJ13.out; omega⟩, ⟨zc BK162⟩, ⟨zb⟩⟩
          ·rw [if_neg c18] at H
           exact absurd H (by simp)
         ·rw [if_neg c17] at H
          exact absurd H (by simp)
        ·replace c16 := Bool.eq_false_iff.mpr c16
         subst c16
         have H1 : (if x9_2 = true then ((saronref06_part.f kj13 a0_0 a0_1 a0_2 l0_3 l1 a2).bind fun t168 => (some (t168, 0))) else (some (([] : List Int), 61))) = some (r1, r2) := by rw [if_neg (show ¬ (false = true) by decide)] at H; exact H
         clear H
         have H := H1
         clear H1
         by_cases c23 : x9_2 = true
         ·subst c23
          have H1 : ((saronref06_part.f kj13 a0_0 a0_1 a0_2 l0_3 l1 a2).bind fun t168 => (some (t168, 0))) = some (r1, r2) := by rw [if_pos rfl] at H; exact H
          clear H
          have H := H1
          clear H1
          replace H := Option.bind_eq_some_iff.mp H
          obtain ⟨t168, A240, H⟩ := H
          replace H : (some (t168, 0)) = some (r1, r2) := H
          have A24 := zh A240
          clear A240
          simp only [Option.some.injEq, Prod.mk.injEq] at H
          obtain ⟨rfl, rfl⟩ := H
          have hcz25_0 : wc.cell? ⟨gb162, 0, none⟩ = some (.int .i64 a0_0) := vb BK162 0
          have hcz25_1 : wc.cell? ⟨gb162, 1, none⟩ = some (.int .i64 a0_1) := vb BK162 1
          have hcz25_2 : wc.cell? ⟨gb162, 2, none⟩ = some (.int .i64 a0_2) := vb BK162 2
          have hcz25_3 : wc.cell? ⟨gb162, 3, none⟩ = some (.slice A0_3 l0_3.length c0_3) := vb BK162 3
          have hfz25_0 := blk_frozen BK162.out 0
          have hfz25_1 := blk_frozen BK162.out 1
          have hfz25_2 := blk_frozen BK162.out 2
          have hfz25_3 := blk_frozen BK162.out 3
          go_wp2_with (first | ((with_reducible refine gate_callee (f := 59) rfl ?_); refine goesL_ (some 51) rfl rfl Tryd.func59 zk rfl #[.agg #[.int .i64 a0_0, .int .i64 a0_1, .int .i64 a0_2, .slice A0_3 l0_3.length c0_3], .slice A1 l1.length c1, .int .i64 a2] rfl zm ?_; (with_reducible refine (saronref06_part.calls kj13 a0_0 a0_1 a0_2 _ _ l0_3 _ _ l1 a2 t168 _ ?side1 ?side2 ?side3 ?side4 A24.out).mono ?_); (case side1 => repeat (first | exact (Kd.C_below HR0_3.out HB.out) | (with_reducible refine Kd.C_alloc ?_ _) | (with_reducible refine Kd.C_drewN ?_ _) | (with_reducible refine Kd.C_drew ?_))); (case side2 => exact HC0_3.out); (case side3 => repeat (first | exact (Kd.C_below HR1.out HB.out) | (with_reducible refine Kd.C_alloc ?_ _) | (with_reducible refine Kd.C_drewN ?_ _) | (with_reducible refine Kd.C_drew ?_))); (case side4 => exact HC1.out); rintro e w26 ⟨v169, rfl, ho0, hb⟩; refine ⟨_, rfl, ?_⟩; have n0_ := zh (Kd.R_lower ho0 (below_size zb)); have n1_ := zh (blk_below (g := gb162) (o := .cells #[.int .i64 a0_0, .int .i64 a0_1, .int .i64 a0_2, .slice A0_3 l0_3.length c0_3] 24 (0, 0)) (zc BK162) hb); have n2_ := zh (below_step zb hb); clear BK162; clear HB; have HO170 := n0_; have BK162 := n1_; have HB := n2_; clear n0_ n1_ n2_; (try clear hb); (try clear hb2); (try clear hk); (try clear hi); (try clear ho0)))
          go_ret2
          exact ⟨_, zf, (zR HO170), zb⟩
         ·replace c23 := Bool.eq_false_iff.mpr c23
          subst c23
          have H1 : (some (([] : List Int), 61)) = some (r1, r2) := by rw [if_neg (show ¬ (false = true) by decide)] at H; exact H
          clear H
          have H := H1
          clear H1
          simp only [Option.some.injEq, Prod.mk.injEq] at H
          obtain ⟨rfl, rfl⟩ := H
          go_wp2
          go_ret2
          exact ⟨_, zf, by first | exact Kd.R_nil _ _ _ _ _ | exact Kd.N_nil _ _ _ _ _ | exact Kd.V_nil _ _ _ _ _ | exact Kd.Q_nil _ _ _ _ _ | exact Kd.S_nil _ _ _ _ _, zb⟩
 ·rw [if_neg c5] at H
  have c5b0 : (t163 == 0) = false := beq_eq_false_iff_ne.mpr c5
  have c5b1 : (t163 != 0) = true := bne_iff_ne.mpr c5
  simp only [Option.some.injEq, Prod.mk.injEq] at H
  obtain ⟨rfl, rfl⟩ := H
  go_enter Tryd.func17, Tryd.ntmps17
  go_wp2_with (first | ((with_reducible refine gate_dst (N := 3) rfl ?_); (try (refine gate_guard (by rfl) ?_; dsimp only)); refine box_event ?hg (N := 3) ?hd (cs := #[.int .i64 a0_0, .int .i64 a0_1, .int .i64 a0_2, .slice A0_3 l0_3.length c0_3]) (t := 24) ?hr ?_; (case hd => rfl); (case hg => rfl); (case hr => first | (go_simp; done) | (go_simp; rfl)); intro gb162 hg w27 hbox hb; have n0_ := zh (below_step zb hb); have n1_ := zh (hbox); have n2_ := zh ((by rw [hg]; exact (below_size zb) : w.heap.size ≤ gb162)); have n3_ := zh ((by rw [hg]; exact (below_size zb) : w.heap.size ≤ gb162)); clear HB; have HB := n0_; have BK162 := n1_; have GW162 := n2_; have GE162 := n3_; clear n0_ n1_ n2_ n3_; clear hb hbox hg; have hcz28_0 : w27.cell? ⟨gb162, 0, none⟩ = some (.int .i64 a0_0) := vb BK162 0; have hcz28_1 : w27.cell? ⟨gb162, 1, none⟩ = some (.int .i64 a0_1) := vb BK162 1; have hcz28_2 : w27.cell? ⟨gb162, 2, none⟩ = some (.int .i64 a0_2) := vb BK162 2; have hcz28_3 : w27.cell? ⟨gb162, 3, none⟩ = some (.slice A0_3 l0_3.length c0_3) := vb BK162 3; have hfz28_0 := blk_frozen BK162.out 0; have hfz28_1 := blk_frozen BK162.out 1; have hfz28_2 := blk_frozen BK162.out 2; have hfz28_3 := blk_frozen BK162.out 3) | ((with_reducible refine gate_callee (f := 20) rfl ?_); refine goesL_ (some 12) rfl rfl Tryd.func20 zk rfl #[.agg #[.int .i64 a0_0, .int .i64 a0_1, .int .i64 a0_2, .slice A0_3 l0_3.length c0_3]] rfl zm ?_; (with_reducible refine (saronref06_Check.calls k a0_0 a0_1 a0_2 _ _ l0_3 t163 _ ?side1 ?side2 A4.out).mono ?_); (case side1 => repeat (first | exact (Kd.C_below HR0_3.out HB.out) | (with_reducible refine Kd.C_alloc ?_ _) | (with_reducible refine Kd.C_drewN ?_ _) | (with_reducible refine Kd.C_drew ?_))); (case side2 => exact HC0_3.out); rintro e w29 ⟨rfl, hb⟩; refine ⟨_, rfl, ?_⟩; have n0_ := zh (blk_below (g := gb162) (o := .cells #[.int .i64 a0_0, .int .i64 a0_1, .int .i64 a0_2, .slice A0_3 l0_3.length c0_3] 24 (0, 0)) (zc BK162) hb); have n1_ := zh (below_step zb hb); clear BK162; clear HB; have BK162 := n0_; have HB := n1_; clear n0_ n1_; (try clear hb); (try clear hb2); (try clear hk); (try clear hi)))
  go_ret2
  exact ⟨_, zf, by first | exact Kd.R_nil _ _ _ _ _ | exact Kd.N_nil _ _ _ _ _ | exact Kd.V_nil _ _ _ _ _ | exact Kd.Q_nil _ _ _ _ _ | exact Kd.S_nil _ _ _ _ _, zb⟩
end Go.Proofs.YtagkfkdoibnhfaaDoor.H
end
section
namespace Go.Proofs.YtagkfkdoibnhfaaDoor.K
open Go.RowKit Go.Proofs.YtagkfkdoibnhfaaDoorW.PrintWords Go.Proofs.YtagkfkdoibnhfaaDoor.H
theorem turn_f (a b : Int) (hb : 1 ≤ b) (hb' : b ≤ 1000) : saronref00_Turn.f a b = some (a % b) := by
 unfold saronref00_Turn.f
 rw [if_neg (by omega), if_neg (by omega)]
 have h := Int.tmod_eq_emod (a := a) (b := b)
 have h1 := Int.emod_nonneg a (by omega : b ≠ 0)
 have h2 := Int.emod_lt_of_pos a (by omega : 0 < b)
 have hn : (b.natAbs : Int) = b := by omega
 split at h
 ·rw [if_neg (by omega), h]; simp
 ·rw [if_pos (by omega), w64 (by omega) (by omega)]
  congr 1
  omega
theorem rplays_l0 (T O L n hi x0 x1 x3 : Int) (R : List S66) (hT : 2 ≤ T) (hT' : T ≤ 7) (hn : -1000 ≤ n) (hn' : n ≤ 1000) (hh : hi ≤ 1000) :
  ∀ (d k : Nat) (t : Int), (hi + 1 - t).toNat = d → -1000 ≤ t → d + 1 ≤ k → saronref06_plays.l0 k n t T O L R x0 x1 hi x3 = some (hit T n hi t)
 | 0, k, t, hd, ht, hk => by
  obtain ⟨k, rfl⟩ : ∃ m, k = m + 1 := ⟨k - 1, by omega⟩
  simp only [saronref06_plays.l0]
  rw [if_neg (by omega)]
  unfold hit
  rw [irange_nil (by omega)]
  rfl
 | d + 1, k, t, hd, ht, hk => by
  obtain ⟨k, rfl⟩ : ∃ m, k = m + 1 := ⟨k - 1, by omega⟩
  simp only [saronref06_plays.l0]
  rw [if_pos (by omega), w64 (by omega) (by omega), turn_f _ _ (by omega) (by omega), Option.bind_some]
  by_cases hz : (t - n) % T = 0
  ·rw [if_pos hz, hit_yes (by omega) ((tmod_zero _ _).2 hz)]
  ·rw [if_neg hz, w64 (by omega) (by omega), rplays_l0 T O L n hi x0 x1 x3 R hT hT' hn hn' hh d k (t + 1) (by omega) (by omega) (by omega), hit_no (by omega) (fun e => hz ((tmod_zero _ _).1 e))]
theorem rplays_f (T O L n : Int) (R : List S66) (x : S66) (hT : 2 ≤ T) (hT' : T ≤ 7) (hx : RegOk x) (hn : -1000 ≤ n) (hn' : n ≤ 1000) (k : Nat) (hk : 110 ≤ k) :
  saronref06_plays.f k T O L R x.f0 x.f1 x.f2 x.f3 n = some (plays T x n) := by
 obtain ⟨q1, q2, q3, q4, q5, q6, q7⟩ := hx
 unfold saronref06_plays.f
 rw [sits_f, Option.bind_some]
 by_cases h : x.f1 ≤ n ∧ n ≤ x.f2
 ·rw [if_pos (by simp [h]), plays_in h]
 ·rw [if_neg (by simpa using h), rplays_l0 T O L n x.f2 x.f0 x.f1 x.f3 R hT hT' hn hn' (by omega) _ k x.f1 rfl (by omega) (by omega), plays_hit h]
theorem rbar_l0 (T O L : Int) (R : List S66) (x : S66) (hT : 2 ≤ T) (hT' : T ≤ 7) (hx : RegOk x) (l : List Int) (hl : l.length ≤ 1000) (hb : ∀ n ∈ l, -1000 ≤ n ∧ n ≤ 1000) :
  ∀ (d k i : Nat), l.length - i = d → i ≤ l.length → d + 111 ≤ k →
   saronref06_bar.l0 k ((l.take i).map (plays T x) ++ l.drop i) (i : Int) T O L R x.f0 x.f1 x.f2 x.f3 = some (l.map (plays T x))
 | 0, k, i, hd, hi, hk => by
  obtain ⟨k, rfl⟩ : ∃ m, k = m + 1 := ⟨k - 1, by omega⟩
  obtain rfl : i = l.length := by omega
  simp only [saronref06_bar.l0]
  rw [if_neg (by simp)]
  simp
 | d + 1, k, i, hd, hi, hk => by
  obtain ⟨k, rfl⟩ : ∃ m, k = m + 1 := ⟨k - 1, by omega⟩
  have hlt : i < l.length := by omega
  have hlen : ((l.take i).map (plays T x) ++ l.drop i).length = l.length := by simp; omega
  have hrd : rd ((l.take i).map (plays T x) ++ l.drop i) (i : Int) = l[i] := by
   unfold rd
   have hl' : ((l.take i).map (plays T x)).length = i := by simp; omega
   rw [Int.toNat_natCast, List.getD_eq_getElem?_getD, List.getElem?_append_right (by omega), hl', Nat.sub_self, List.drop_eq_getElem_cons hlt]
   rfl
  have hset : ((l.take i).map (plays T x) ++ l.drop i).set (i : Int).toNat (plays T x l[i]) = (l.take (i + 1)).map (plays T x) ++ l.drop (i + 1) := by
   rw [Int.toNat_natCast, List.set_append_right _ _ (by simp; omega), List.drop_eq_getElem_cons hlt, List.take_succ_eq_append_getElem hlt]
   rw [show i - (List.map (plays T x) (l.take i)).length = 0 from by simp; omega, List.set_cons_zero, List.map_append, List.append_assoc]
   rfl
  simp only [saronref06_bar.l0]
  have e : wrap64 ((i : Int) + 1) = ((i + 1 : Nat) : Int) := by rw [w64 (by omega) (by omega)]; simp
  have hm := hb l[i] (List.getElem_mem hlt)
  rw [if_pos (by rw [hlen]; omega), if_pos (by omega), hrd, rplays_f T O L l[i] R x hT hT' hx hm.1 hm.2 k (by omega), Option.bind_some, hset, e]
  exact rbar_l0 T O L R x hT hT' hx l hl hb d k (i + 1) (by omega) (by omega) (by omega)
theorem rbar_j0 (T O L : Int) (R : List S66) (x : S66) (hT : 2 ≤ T) (hT' : T ≤ 7) (hx : RegOk x) (l : List Int) (hl : l.length ≤ 4) (hb : ∀ n ∈ l, -1000 ≤ n ∧ n ≤ 1000) (k : Nat) (hk : 140 ≤ k) :
  saronref06_bar.j0 k l T O L R x.f0 x.f1 x.f2 x.f3 = some (l.map (plays T x)) := by
 obtain ⟨k, rfl⟩ : ∃ m, k = m + 1 := ⟨k - 1, by omega⟩
 have h := rbar_l0 T O L R x hT hT' hx l (by omega) hb l.length k 0 (by omega) (by omega) (by omega)
 simp only [List.take_zero, List.map_nil, List.drop_zero, List.nil_append] at h
 simp only [saronref06_bar.j0]
 exact h
theorem rbar_f (T O L : Int) (R : List S66) (r a b : Int) (hT : 2 ≤ T) (hT' : T ≤ 7) (h0 : 0 ≤ r) (h1 : r < R.length) (hx : RegOk (regAt R r)) (ha : 0 ≤ a) (ha' : a ≤ 100) (hb0 : 0 ≤ b) (hb1 : b ≤ 100) (k : Nat) (hk : 140 ≤ k) :
  saronref06_bar.f k T O L R r a b = some (strokes T R r a b) := by
 obtain ⟨i, rfl⟩ : ∃ i : Nat, r = i := ⟨r.toNat, by omega⟩
 have hi : i < R.length := by omega
 have e : regAt R (i : Int) = R[i] := by unfold regAt; simp [hi]
 have hx' : RegOk R[i] := e ▸ hx
 obtain ⟨q1, q2, q3, q4, q5, q6, q7⟩ := hx'
 unfold saronref06_bar.f strokes
 rw [if_pos h0, if_pos h1, rd66 R i hi, e, w64 (by omega) (by omega), w64 (by omega) (by omega)]
 have J := fun l hl hb => rbar_j0 T O L R R[i] hT hT' ⟨q1, q2, q3, q4, q5, q6, q7⟩ l hl hb k hk
 unfold bar
 split
 ·exact J _ (by simp) (by simp; omega)
 split
 ·exact J _ (by simp) (by simp; omega)
 split
 ·exact J _ (by simp) (by simp; omega)
 split
 ·exact J _ (by simp) (by simp; omega)
 ·exact J _ (by simp) (by simp; omega)
end Go.Proofs.YtagkfkdoibnhfaaDoor.K
end
section
namespace Go.Proofs.YtagkfkdoibnhfaaDoor.K
open Go.RowKit Go.Proofs.YtagkfkdoibnhfaaDoorW.PrintWords Go.Proofs.YtagkfkdoibnhfaaDoor.H
theorem rd_nat (l : List Int) (i : Nat) (h : i < l.length) : rd l (i : Int) = l[i] := by
 unfold rd
 simp [h]
theorem rpart_l0 (T O L r : Int) (R : List S66) (l : List Int) (hT : 2 ≤ T) (hT' : T ≤ 7) (h0 : 0 ≤ r) (h1 : r < R.length) (hx : RegOk (regAt R r)) (hl : l.length ≤ 1000) (hb : ∀ n ∈ l, 0 ≤ n ∧ n ≤ 100) :
  ∀ (d k i : Nat) (acc : List Int), l.length = 2 * (i + d) → acc.length + 4 * d ≤ 10000 → d + 141 ≤ k →
   saronref06_part.l0 k l r acc ((2 * i : Nat) : Int) T O L R = some (acc ++ partOf T R r (l.drop (2 * i)))
 | 0, k, i, acc, hd, ha, hk => by
  obtain ⟨k, rfl⟩ : ∃ m, k = m + 1 := ⟨k - 1, by omega⟩
  simp only [saronref06_part.l0]
  rw [if_neg (by omega), List.drop_eq_nil_of_le (by omega)]
  simp [partOf]
 | d + 1, k, i, acc, hd, ha, hk => by
  obtain ⟨k, rfl⟩ : ∃ m, k = m + 1 := ⟨k - 1, by omega⟩
  have e1 : wrap64 (((2 * i : Nat) : Int) + 1) = ((2 * i + 1 : Nat) : Int) := by rw [w64 (by omega) (by omega)]; simp
  have e2 : wrap64 (((2 * i : Nat) : Int) + 2) = ((2 * (i + 1) : Nat) : Int) := by rw [w64 (by omega) (by omega)]; omega
  have l0 : 2 * i < l.length := by omega
  have l1 : 2 * i + 1 < l.length := by omega
  have b0 := hb l[2 * i] (List.getElem_mem l0)
  have b1 := hb l[2 * i + 1] (List.getElem_mem l1)
  have hs := strokes_len T R r l[2 * i] l[2 * i + 1]
  have ed : l.drop (2 * i) = l[2 * i] :: l[2 * i + 1] :: l.drop (2 * (i + 1)) := by
   rw [List.drop_eq_getElem_cons l0, List.drop_eq_getElem_cons l1]; rfl
  simp only [saronref06_part.l0]
  rw [e1, e2, if_pos (by omega), if_pos (by omega), if_pos (by omega), if_pos (by omega), rd_nat l _ l0, rd_nat l _ l1, rbar_f T O L R r _ _ hT hT' h0 h1 hx b0.1 b0.2 b1.1 b1.2 k (by omega), Option.bind_some, if_pos (by omega)]
  rw [rpart_l0 T O L r R l hT hT' h0 h1 hx hl hb d k (i + 1) _ (by omega) (by simp; omega) (by omega), ed]
  simp only [partOf, List.append_assoc]
theorem rpart_f (T O L r : Int) (R : List S66) (l : List Int) (hT : 2 ≤ T) (hT' : T ≤ 7) (h0 : 0 ≤ r) (h1 : r < R.length) (hx : RegOk (regAt R r)) (hl : l.length ≤ 1000) (he : l.length % 2 = 0) (hb : ∀ n ∈ l, 0 ≤ n ∧ n ≤ 100) (k : Nat) (hk : 641 ≤ k) :
  saronref06_part.f k T O L R l r = some (partOf T R r l) := by
 have h := rpart_l0 T O L r R l hT hT' h0 h1 hx hl hb (l.length / 2) k 0 [] (by omega) (by simp; omega) (by omega)
 simpa [saronref06_part.f] using h
theorem rPart_l0 (T O L r : Int) (R : List S66) (l : List Int) (hS : okScale T O L R = true) (hlen : l.length ≤ 9223372036854775807) :
  ∀ (d k i : Nat) (ok : Bool), l.length - i = d → i ≤ l.length → 2 * d + 700 ≤ k → (ok = true → (l.length : Int) = L ∧ 0 ≤ r ∧ r < R.length ∧ ∀ n ∈ l.take i, 0 ≤ n ∧ n < T * O) →
   saronref06_Part.l0 k l r ok (i : Int) T O L R = some (if ok && (l.drop i).all (fun t => decide (0 ≤ t) && decide (t < T * O)) then (partOf T R r l, 0) else ([], 61))
 | d, k, i, false, hd, hi, hk, h => by
  obtain ⟨k, rfl⟩ : ∃ m, k = m + 2 := ⟨k - 2, by omega⟩
  simp [saronref06_Part.l0, saronref06_Part.j2]
 | 0, k, i, true, hd, hi, hk, h => by
  obtain ⟨k, rfl⟩ : ∃ m, k = m + 2 := ⟨k - 2, by omega⟩
  obtain rfl : i = l.length := by omega
  obtain ⟨t1, t2, t3, t4, t5, t6, t7, t8, t9, hok⟩ := okScale_regs hS
  obtain ⟨m1, m2⟩ := mul_range t1 t2 t3 t4
  obtain ⟨g1, g2, g3, g4⟩ := h rfl
  rw [List.take_length] at g4
  have hp := rpart_f T O L r R l t1 t2 g2 g3 (hok r g2 g3) (by omega) (by omega) (fun n hn => by have := g4 n hn; omega) k (by omega)
  simp [saronref06_Part.l0, saronref06_Part.j2, hp]
 | d + 1, k, i, true, hd, hi, hk, h => by
  obtain ⟨k, rfl⟩ : ∃ m, k = m + 2 := ⟨k - 2, by omega⟩
  have hlt : i < l.length := by omega
  have e : wrap64 ((i : Int) + 1) = ((i + 1 : Nat) : Int) := by rw [w64 (by omega) (by omega)]; simp
  obtain ⟨t1, t2, t3, t4, t5, t6, t7, t8, t9, hok⟩ := okScale_regs hS
  obtain ⟨m1, m2⟩ := mul_range t1 t2 t3 t4
  obtain ⟨g1, g2, g3, g4⟩ := h rfl
  have hdec : decide ((i : Int) < (l.length : Int)) = true := decide_eq_true (by omega)
  simp only [saronref06_Part.l0, saronref06_Part.j2, hdec, if_true]
  rw [if_pos (by omega), if_pos (by omega), e, rd_nat l i hlt]
  simp only [sits_f, saronref06_tones.f, Option.bind_some]
  rw [w64 (by omega) (by omega : T * O ≤ 9223372036854775807), w64 (by omega) (by omega : T * O - 1 ≤ 9223372036854775807)]
  rw [rPart_l0 T O L r R l hS hlen d k (i + 1) _ (by omega) (by omega) (by omega) (fun hc => ⟨g1, g2, g3, fun n hn => by
   rw [List.take_succ_eq_append_getElem hlt, List.mem_append, List.mem_singleton] at hn
   simp only [Bool.and_eq_true, decide_eq_true_eq] at hc
   rcases hn with hn | rfl
   ·exact g4 n hn
   ·exact ⟨hc.1, by omega⟩⟩)]
  rw [List.drop_eq_getElem_cons hlt, List.all_cons]
  have ee : decide (l[i] ≤ T * O - 1) = decide (l[i] < T * O) := by rw [decide_eq_decide]; omega
  rw [ee, Bool.true_and]
theorem rPart_f (T O L r : Int) (R : List S66) (l : List Int) (hR : R.length ≤ 9223372036854775807) (hlen : l.length ≤ 9223372036854775807) (k : Nat) (hk : 2 * R.length + 2 * l.length + 710 ≤ k) :
  saronref06_Part.f k T O L R l r = some (Part T O L R l r) := by
 obtain ⟨k, rfl⟩ : ∃ m, k = m + 1 := ⟨k - 1, by omega⟩
 unfold saronref06_Part.f Part
 rw [rcheck_f T O L R hR (k + 1) (by omega), Option.bind_some]
 cases hS : okScale T O L R
 ·simp
 obtain ⟨t1, t2, t3, t4, t5, t6, t7, t8, t9, hok⟩ := okScale_regs hS
 have J : ∀ ok, (ok = true → (l.length : Int) = L ∧ 0 ≤ r ∧ r < R.length) → saronref06_Part.j0 (k + 1) l r ok T O L R = some (if ok && l.all (fun t => decide (0 ≤ t) && decide (t < T * O)) then (partOf T R r l, 0) else ([], 61)) := fun ok h => by
  have := rPart_l0 T O L r R l hS hlen l.length k 0 ok (by omega) (by omega) (by omega) (fun hc => ⟨(h hc).1, (h hc).2.1, (h hc).2.2, by simp⟩)
  simp only [saronref06_Part.j0]
  simpa using this
 simp only [if_true, sits_f, Option.bind_some]
 rw [w64 (by omega) (by omega)]
 unfold okPart
 by_cases hL : (l.length : Int) = L
 ·rw [if_pos hL, J _ (fun hc => by simp only [Bool.and_eq_true, decide_eq_true_eq] at hc; exact ⟨hL, hc.1, by omega⟩)]
  have ee : decide (r ≤ (R.length : Int) - 1) = decide (r < (R.length : Int)) := by rw [decide_eq_decide]; omega
  rw [ee, decide_eq_true hL, Bool.true_and]
 ·rw [if_neg hL, J false (by simp), decide_eq_false hL]
  simp
end Go.Proofs.YtagkfkdoibnhfaaDoor.K
end
section
namespace Go.Proofs.YtagkfkdoibnhfaaDoor.H
open Go.RowKit Go.Proofs.YtagkfkdoibnhfaaDoorW.PrintWords Go.Proofs.YtagkfkdoibnhfaaDoorW.PrintLast Go.Proofs.YtagkfkdoibnhfaaDoorW.PrintMore
attribute [local go_sem] max2_int min2_int max_two min_two max_three min_three max_four min_four   -- for this text's walks alone
set_option linter.unusedVariables false
set_option linter.unusedSimpArgs false
open Go.Proofs.YtagkfkdoibnhfaaDoor.K
def saronlaw06_KernelParts.f (k : Nat) (a0_0 : Int) (a0_1 : Int) (a0_2 : Int) (l0_3 : List (S66)) (l1 : List Int) (a2 : Int) : Option (Bool) := (kernel_Part.f a0_0 a0_1 a0_2 l0_3 l1 a2).bind fun bt225 => ((saronref06_Part.f k a0_0 a0_1 a0_2 l0_3 l1 a2).bind fun bt229 => ((saronref00_Equal.f k bt225.1 bt229.1).bind fun t233 => (if t233 = true then (if bt225.2 = bt229.2 then ((kernel_Check.f k a0_0 a0_1 a0_2 l0_3).bind fun t234 => ((saronref06_Check.f k a0_0 a0_1 a0_2 l0_3).bind fun t235 => (if t234 = t235 then ((saronlaw06_works.f).bind fun t236 => (some t236)) else (some false)))) else (some false)) else (some false))))
def saronlaw06_KernelParts.T3 : Bool × List (List Nat × List Nat) := (true, [([], []), ([], []), ([0, 1], [0, 1]), ([2, 2], [2]), ([3], [3]), ([3], [3]), ([4, 5, 3], [3, 4, 5]), ([3, 6], [3, 6]), ([7, 3], [7]), ([8], [8]), ([9, 8, 8], [8, 9]), ([8], [8]), ([11, 10, 8], [8, 11]), ([10, 12, 8], [8, 10, 12]), ([8, 13], [8, 13]), ([14, 12], [14]), ([15, 15], [15]), ([15, 16], [15, 16]), ([17, 16, 0, 1, 2, 3, 4, 5, 6, 7, 8, 9, 10, 11, 12, 13, 14, 15, 16, 17], [17])])
def saronlaw06_KernelParts.B3 : List Nat := [0, 0, 3, 7, 15, 15, 63, 127, 255, 511, 1023, 511, 4095, 8191, 16383, 32767, 65535, 131071, 262143]
theorem saronlaw06_KernelParts.tab3 : rtab .any (opsOf Tryd.f3 3) = saronlaw06_KernelParts.T3 := by kernel_rfl
theorem saronlaw06_KernelParts.bits3 : waitsOk saronlaw06_KernelParts.T3.2 saronlaw06_KernelParts.B3 = true := by kernel_rfl
set_option maxHeartbeats 8000000 in
set_option maxRecDepth 100000 in
theorem saronlaw06_KernelParts.calls (k : Nat) (a0_0 : Int) (a0_1 : Int) (a0_2 : Int) (A0_3 : Option Addr) (c0_3 : Nat) (l0_3 : List (S66)) (A1 : Option Addr) (c1 : Nat) (l1 : List Int) (a2 : Int) (r : Bool) (w : World) (hr0_3 : Kd.C k66 w A0_3 l0_3.length l0_3) (hc0_3 : l0_3.length ≤ c0_3) (hr1 : Kd.C (Kd.int .i64) w A1 l1.length l1) (hc1 : l1.length ≤ c1) (hG : Glob w) (h : saronlaw06_KernelParts.f k a0_0 a0_1 a0_2 l0_3 l1 a2 = some r) :
  Calls Tryd.prog 3 #[.agg #[.int .i64 a0_0, .int .i64 a0_1, .int .i64 a0_2, .slice A0_3 l0_3.length c0_3], .slice A1 l1.length c1, .int .i64 a2] w fun e w' => e = .returned (.bool r) ∧ Below w.heap.size w w' := by
 have hu24 := Tryd.underlying24
 have HG := zh hG
 clear hG
 have HR0_3 := zh hr0_3
 have HC0_3 := zh hc0_3
 clear hr0_3 hc0_3
 have HR1 := zh hr1
 have HC1 := zh hc1
 clear hr1 hc1
 have HB := zh (Below.refl w.heap.size w)
 have H : ((kernel_Part.f a0_0 a0_1 a0_2 l0_3 l1 a2).bind fun bt225 => ((saronref06_Part.f k a0_0 a0_1 a0_2 l0_3 l1 a2).bind fun bt229 => ((saronref00_Equal.f k bt225.1 bt229.1).bind fun t233 => (if t233 = true then (if bt225.2 = bt229.2 then ((kernel_Check.f k a0_0 a0_1 a0_2 l0_3).bind fun t234 => ((saronref06_Check.f k a0_0 a0_1 a0_2 l0_3).bind fun t235 => (if t234 = t235 then ((saronlaw06_works.f).bind fun t236 => (some t236)) else (some false)))) else (some false)) else (some false))))) = some r := h
 clear h
 replace H := Option.bind_eq_some_iff.mp H
 obtain ⟨⟨t225, t228⟩, A40, H⟩ := H
 replace H : ((saronref06_Part.f k a0_0 a0_1 a0_2 l0_3 l1 a2).bind fun bt229 => ((saronref00_Equal.f k t225 bt229.1).bind fun t233 => (if t233 = true then (if t228 = bt229.2 then ((kernel_Check.f k a0_0 a0_1 a0_2 l0_3).bind fun t234 => ((saronref06_Check.f k a0_0 a0_1 a0_2 l0_3).bind fun t235 => (if t234 = t235 then ((saronlaw06_works.f).bind fun t236 => (some t236)) else (some false)))) else (some false)) else (some false)))) = some r := H
 have A4 := zh A40
 clear A40
 replace H := Option.bind_eq_some_iff.mp H
 obtain ⟨⟨t229, t232⟩, A50, H⟩ := H
 replace H : ((saronref00_Equal.f k t225 t229).bind fun t233 => (if t233 = true then (if t228 = t232 then ((kernel_Check.f k a0_0 a0_1 a0_2 l0_3).bind fun t234 => ((saronref06_Check.f k a0_0 a0_1 a0_2 l0_3).bind fun t235 => (if t234 = t235 then ((saronlaw06_works.f).bind fun t236 => (some t236)) else (some false)))) else (some false)) else (some false))) = some r := H
 have A5 := zh A50
 clear A50
 replace H := Option.bind_eq_some_iff.mp H
 obtain ⟨t233, A60, H⟩ := H
 replace H : (if t233 = true then (if t228 = t232 then ((kernel_Check.f k a0_0 a0_1 a0_2 l0_3).bind fun t234 => ((saronref06_Check.f k a0_0 a0_1 a0_2 l0_3).bind fun t235 => (if t234 = t235 then ((saronlaw06_works.f).bind fun t236 => (some t236)) else (some false)))) else (some false)) else (some false)) = some r := H
 have A6 := zh A60
 clear A60
 by_cases c7 : t233 = true
 ·subst c7
  have H1 : (if t228 = t232 then ((kernel_Check.f k a0_0 a0_1 a0_2 l0_3).bind fun t234 => ((saronref06_Check.f k a0_0 a0_1 a0_2 l0_3).bind fun t235 => (if t234 = t235 then ((saronlaw06_works.f).bind fun t236 => (some t236)) else (some false)))) else (some false)) = some r := by rw [if_pos rfl] at H; exact H
  clear H
  have H := H1
  clear H1
  by_cases c8 : t228 = t232
  ·rw [if_pos c8] at H
   have c8b0 : (t228 == t232) = true := beq_iff_eq.mpr c8
   have c8b1 : (t228 != t232) = false := bne_eq_false_iff_eq.mpr c8
   clear c8
   replace H := Option.bind_eq_some_iff.mp H
   obtain ⟨t234, A90, H⟩ := H
   replace H : ((saronref06_Check.f k a0_0 a0_1 a0_2 l0_3).bind fun t235 => (if t234 = t235 then ((saronlaw06_works.f).bind fun t236 => (some t236)) else (some false))) = some r := H
   have A9 := zh A90
   clear A90
   replace H := Option.bind_eq_some_iff.mp H
   obtain ⟨t235, A100, H⟩ := H
   replace H : (if t234 = t235 then ((saronlaw06_works.f).bind fun t236 => (some t236)) else (some false)) = some r := H
   have A10 := zh A100
   clear A100
   by_cases c11 : t234 = t235
   ·rw [if_pos c11] at H
    have c11b0 : (t234 == t235) = true := beq_iff_eq.mpr c11
    have c11b1 : (t234 != t235) = false := bne_eq_false_iff_eq.mpr c11
    clear c11
    replace H := Option.bind_eq_some_iff.mp H
    obtain ⟨t236, A120, H⟩ := H
    replace H : (some t236) = some r := H
    have A12 := zh A120
    clear A120
    obtain rfl := Option.some.inj H
    go_enter Tryd.func3, Tryd.ntmps3
    try go_wp2_with (first | ((with_reducible refine gate_dst (N := 3) rfl ?_); refine box_event ?hg (N := 3) ?hd (cs := #[.int .i64 a0_0, .int .i64 a0_1, .int .i64 a0_2, .slice A0_3 l0_3.length c0_3]) (t := 24) ?hr ?_; (case hd => rfl); (case hg => rfl); (case hr => first | (go_simp; done) | (go_simp; rfl)); intro gb224 hg w13 hbox hb; have n0_ := zh (below_step zb hb); have n1_ := zh (hbox); have n2_ := zh ((by rw [hg]; exact (below_size zb) : w.heap.size ≤ gb224)); have n3_ := zh ((by rw [hg]; exact (below_size zb) : w.heap.size ≤ gb224)); clear HB; have HB := n0_; have BK224 := n1_; have GW224 := n2_; have GE224 := n3_; clear n0_ n1_ n2_ n3_; clear hb hbox hg; have hcz14_0 : w13.cell? ⟨gb224, 0, none⟩ = some (.int .i64 a0_0) := vb BK224 0; have hcz14_1 : w13.cell? ⟨gb224, 1, none⟩ = some (.int .i64 a0_1) := vb BK224 1; have hcz14_2 : w13.cell? ⟨gb224, 2, none⟩ = some (.int .i64 a0_2) := vb BK224 2; have hcz14_3 : w13.cell? ⟨gb224, 3, none⟩ = some (.slice A0_3 l0_3.length c0_3) := vb BK224 3; have hfz14_0 := blk_frozen BK224.out 0; have hfz14_1 := blk_frozen BK224.out 1; have hfz14_2 := blk_frozen BK224.out 2; have hfz14_3 := blk_frozen BK224.out 3) | ((with_reducible refine gate_callee (f := 16) rfl ?_); refine goesL_ (some 15) rfl rfl Tryd.func16 zk rfl #[.agg #[.int .i64 a0_0, .int .i64 a0_1, .int .i64 a0_2, .slice A0_3 l0_3.length c0_3], .slice A1 l1.length c1, .int .i64 a2] rfl zm ?_; (with_reducible refine (kernel_Part.calls a0_0 a0_1 a0_2 _ _ l0_3 _ _ l1 a2 t225 t228 _ ?side1 ?side2 ?side3 ?side4 ?side5 A4.out).mono ?_); (case side1 => repeat (first | exact (Kd.C_below HR0_3.out HB.out) | (with_reducible refine Kd.C_alloc ?_ _) | (with_reducible refine Kd.C_drewN ?_ _) | (with_reducible refine Kd.C_drew ?_))); (case side2 => exact HC0_3.out); (case side3 => repeat (first | exact (Kd.C_below HR1.out HB.out) | (with_reducible refine Kd.C_alloc ?_ _) | (with_reducible refine Kd.C_drewN ?_ _) | (with_reducible refine Kd.C_drew ?_))); (case side4 => exact HC1.out); (case side5 => exact Glob.below HG.out zb); rintro e w15 ⟨v226, rfl, ho0, hb⟩; refine ⟨_, rfl, ?_⟩; have n0_ := zh (Kd.V_lower (Kd.V_mono (ok' := fun k_ => k_ ≠ gb224) ho0 (fun k_ hk_ => (Kd.freshB (g := gb224) (o := .cells #[.int .i64 a0_0, .int .i64 a0_1, .int .i64 a0_2, .slice A0_3 l0_3.length c0_3] 24 (0, 0)) (zc BK224) k_ hk_))) (below_size zb)); have n1_ := zh (blk_below (g := gb224) (o := .cells #[.int .i64 a0_0, .int .i64 a0_1, .int .i64 a0_2, .slice A0_3 l0_3.length c0_3] 24 (0, 0)) (zc BK224) hb); have n2_ := zh (below_step zb hb); clear BK224; clear HB; have HO227 := n0_; have BK224 := n1_; have HB := n2_; clear n0_ n1_ n2_; (try clear hb); (try clear hb2); (try clear hk); (try clear hi); (try clear ho0); have hcz16_0 : w15.cell? ⟨gb224, 0, none⟩ = some (.int .i64 a0_0) := vb BK224 0; have hcz16_1 : w15.cell? ⟨gb224, 1, none⟩ = some (.int .i64 a0_1) := vb BK224 1; have hcz16_2 : w15.cell? ⟨gb224, 2, none⟩ = some (.int .i64 a0_2) := vb BK224 2; have hcz16_3 : w15.cell? ⟨gb224, 3, none⟩ = some (.slice A0_3 l0_3.length c0_3) := vb BK224 3; have hfz16_0 := blk_frozen BK224.out 0; have hfz16_1 := blk_frozen BK224.out 1; have hfz16_2 := blk_frozen BK224.out 2; have hfz16_3 := blk_frozen BK224.out 3) | ((with_reducible refine gate_callee (f := 17) rfl ?_); refine goesL_ (some 22) rfl rfl Tryd.func17 zk rfl #[.agg #[.int .i64 a0_0, .int .i64 a0_1, .int .i64 a0_2, .slice A0_3 l0_3.length c0_3], .slice A1 l1.length c1, .int .i64 a2] rfl zm ?_; (with_reducible refine (saronref06_Part.calls k a0_0 a0_1 a0_2 _ _ l0_3 _ _ l1 a2 t229 t232 _ ?side1 ?side2 ?side3 ?side4 A5.out).mono ?_); (case side1 => repeat (first | exact (Kd.C_below HR0_3.out HB.out) | (with_reducible refine Kd.C_alloc ?_ _) | (with_reducible refine Kd.C_drewN ?_ _) | (with_reducible refine Kd.C_drew ?_))); (case side2 => exact HC0_3.out); (case side3 => repeat (first | exact (Kd.C_below HR1.out HB.out) | (with_reducible refine Kd.C_alloc ?_ _) | (with_reducible refine Kd.C_drewN ?_ _) | (with_reducible refine Kd.C_drew ?_))); (case side4 => exact HC1.out); rintro e w17 ⟨v230, rfl, ho0, hb⟩; refine ⟨_, rfl, ?_⟩; have n0_ := zh (Kd.V_elder' (zV HO227) (Kd.R_base ho0) hb); have n1_ := zh (Kd.R_lower ho0 (below_size zb)); have n2_ := zh (blk_below (g := gb224) (o := .cells #[.int .i64 a0_0, .int .i64 a0_1, .int .i64 a0_2, .slice A0_3 l0_3.length c0_3] 24 (0, 0)) (zc BK224) hb); have n3_ := zh (below_step zb hb); clear HO227; clear BK224; clear HB; have HO227 := n0_; have HO231 := n1_; have BK224 := n2_; have HB := n3_; clear n0_ n1_ n2_ n3_; (try clear hb); (try clear hb2); (try clear hk); (try clear hi); (try clear ho0)))
    replace HO227 := zh (Kd.V_drew HO227.out)
    replace HO231 := zh (Kd.R_drew HO231.out)
    replace BK224 := zh (blk_drew BK224.out)
    replace HB := zh (below_drew1 HB.out)
    obtain ⟨Ao19, co19, eo19⟩ := Kd.V_slice HO227.out
    (first | subst eo19 | (injection eo19 with f1_ f2_ f3_; have f4_ := f1_.symm; have f5_ := f3_.symm; clear f1_ f2_ f3_; subst f4_; subst f5_))
    obtain ⟨Ao20, co20, eo20⟩ := Kd.R_slice HO231.out
    (first | subst eo20 | (injection eo20 with f1_ f2_ f3_; have f4_ := f1_.symm; have f5_ := f3_.symm; clear f1_ f2_ f3_; subst f4_; subst f5_))
    refine start_ (n := 19) (S := fun w' => w'.cell? ⟨gb224, 0, none⟩ = some (.int .i64 a0_0) ∧ w'.cell? ⟨gb224, 1, none⟩ = some (.int .i64 a0_1) ∧ w'.cell? ⟨gb224, 2, none⟩ = some (.int .i64 a0_2) ∧ w'.cell? ⟨gb224, 3, none⟩ = some (.slice A0_3 l0_3.length c0_3)) (ds := []) (Array.replicate 19 false) zk rfl rfl ⟨vb BK224 0, vb BK224 1, vb BK224 2, vb BK224 3⟩ (fun hHeld => ?_); refine with_tabW saronlaw06_KernelParts.tab3 saronlaw06_KernelParts.bits3 (fun HT_ HW_ => ?_)
    generalize w17.drew = w18 at HO227 HO231 BK224 HB hHeld ⊢
    refine zu 0 ?_
    refine zu 1 ?_
    refine zo 2 (fun K hK => ?_)
    refine goes_ Tryd.func18 zk rfl #[.slice Ao19 t225.length co19, .slice Ao20 t229.length co20] (by rfl) rfl rfl zm ?_
    with_reducible refine (saronref00_Equal.calls k _ _ t225 _ _ t229 true _ ?side1 ?side2 ?side3 ?side4 A6.out).mono ?_
    (case side1 => repeat (first | exact (Kd.V_reads' HO227.out).2.2 | (with_reducible refine Kd.C_alloc ?_ _) | (with_reducible refine Kd.C_drewN ?_ _) | (with_reducible refine Kd.C_drew ?_)))
    (case side2 => exact (Kd.V_reads' HO227.out).2.1)
    (case side3 => repeat (first | exact (Kd.R_reads' HO231.out).2.2 | (with_reducible refine Kd.C_alloc ?_ _) | (with_reducible refine Kd.C_drewN ?_ _) | (with_reducible refine Kd.C_drew ?_)))
    (case side4 => exact (Kd.R_reads' HO231.out).2.1)
    rintro e w' ⟨rfl, ⟨nd, rfl⟩⟩
    refine ⟨_, rfl, ?_⟩
    refine hK.out _ _ ⟨vb BK224 0, vb BK224 1, vb BK224 2, vb BK224 3⟩ (fun hHeld => ?_)
    clear hK K
    refine zr 27 _ ?_
    refine zu 3 ?_
    refine zu 4 ?_
    refine zu 5 ?_
    refine zu 6 ?_
    refine zu 7 ?_
    refine zu 8 ?_
    refine zt 9 ?_
    refine zt 11 ?_
    refine zo 10 (fun K hK => ?_)
    refine goes_ Tryd.func19 zk rfl #[.agg #[.int .i64 a0_0, .int .i64 a0_1, .int .i64 a0_2, .slice A0_3 l0_3.length c0_3]] (by rfl) rfl rfl zm ?_
    with_reducible refine (kernel_Check.calls k a0_0 a0_1 a0_2 _ _ l0_3 t234 _ ?side1 ?side2 A9.out).mono ?_
    (case side1 => repeat (first | exact (Kd.C_below HR0_3.out zb) | (with_reducible refine Kd.C_alloc ?_ _) | (with_reducible refine Kd.C_drewN ?_ _) | (with_reducible refine Kd.C_drew ?_)))
    (case side2 => exact HC0_3.out)
    rintro e w21 ⟨rfl, hb⟩
    refine ⟨_, rfl, ?_⟩
    replace HO227 := zh (Kd.V_below (zV HO227) hb)
    replace HO231 := zh (Kd.R_below (zR HO231) hb)
    replace BK224 := zh (blk_below (g := gb224) (o := .cells #[.int .i64 a0_0, .int .i64 a0_1, .int .i64 a0_2, .slice A0_3 l0_3.length c0_3] 24 (0, 0)) (zc BK224) hb)
    replace HB := zh (below_step zb hb)
    (try clear hb)
    (try clear hb2)
    (try clear hk)
    (try clear hi)
    refine hK.out _ _ ⟨vb BK224 0, vb BK224 1, vb BK224 2, vb BK224 3⟩ (fun hHeld => ?_)
    clear hK K
    refine zr 35 _ ?_
    refine zo 12 (fun K hK => ?_)
    refine goes_ Tryd.func20 zk rfl #[.agg #[.int .i64 a0_0, .int .i64 a0_1, .int .i64 a0_2, .slice A0_3 l0_3.length c0_3]] (by rfl) rfl rfl zm ?_
    with_reducible refine (saronref06_Check.calls k a0_0 a0_1 a0_2 _ _ l0_3 t235 _ ?side1 ?side2 A10.out).mono ?_
    (case side1 => repeat (first | exact (Kd.C_below HR0_3.out HB.out) | (with_reducible refine Kd.C_alloc ?_ _) | (with_reducible refine Kd.C_drewN ?_ _) | (with_reducible refine Kd.C_drew ?_)))
    (case side2 => exact HC0_3.out)
    rintro e w22 ⟨rfl, hb⟩
    refine ⟨_, rfl, ?_⟩
    replace HO227 := zh (Kd.V_below (zV HO227) hb)
    replace HO231 := zh (Kd.R_below (zR HO231) hb)
    replace BK224 := zh (blk_below (g := gb224) (o := .cells #[.int .i64 a0_0, .int .i64 a0_1, .int .i64 a0_2, .slice A0_3 l0_3.length c0_3] 24 (0, 0)) (zc BK224) hb)
    replace HB := zh (below_step zb hb)
    (try clear hb)
    (try clear hb2)
    (try clear hk)
    (try clear hi)
    refine hK.out _ _ ⟨vb BK224 0, vb BK224 1, vb BK224 2, vb BK224 3⟩ (fun hHeld => ?_)
    clear hK K
    refine zr 37 _ ?_
    refine zu 13 ?_
    refine zu 14 ?_
    refine zu 15 ?_
    refine zo 16 (fun K hK => ?_)
    refine goes_ Tryd.func21 zk rfl #[] (by rfl) rfl rfl zm ?_
    with_reducible refine (saronlaw06_works.calls  t236 _ ?side1 A12.out).mono ?_
    (case side1 => exact Glob.below HG.out zb)
    rintro e w23 ⟨rfl, hb⟩
    refine ⟨_, rfl, ?_⟩
    replace HO227 := zh (Kd.V_below (zV HO227) hb)
    replace HO231 := zh (Kd.R_below (zR HO231) hb)
    replace BK224 := zh (blk_below (g := gb224) (o := .cells #[.int .i64 a0_0, .int .i64 a0_1, .int .i64 a0_2, .slice A0_3 l0_3.length c0_3] 24 (0, 0)) (zc BK224) hb)
    replace HB := zh (below_step zb hb)
    (try clear hb)
    (try clear hb2)
    (try clear hk)
    (try clear hi)
    refine hK.out _ _ ⟨vb BK224 0, vb BK224 1, vb BK224 2, vb BK224 3⟩ (fun hHeld => ?_)
    clear hK K
    refine zr 41 _ ?_
    refine zu 17 ?_
    refine zu 18 ?_
    refine zd ?_
    try go_wp2
    go_ret
    exact ⟨zf, zb⟩
   ·rw [if_neg c11] at H
    have c11b0 : (t234 == t235) = false := beq_eq_false_iff_ne.mpr c11
    have c11b1 : (t234 != t235) = true := bne_iff_ne.mpr c11
    obtain rfl := Option.some.inj H
    go_enter Tryd.func3, Tryd.ntmps3
    try go_wp2_with (first | ((with_reducible refine gate_dst (N := 3) rfl ?_); refine box_event ?hg (N := 3) ?hd (cs := #[.int .i64 a0_0, .int .i64 a0_1, .int .i64 a0_2, .slice A0_3 l0_3.length c0_3]) (t := 24) ?hr ?_; (case hd => rfl); (case hg => rfl); (case hr => first | (go_simp; done) | (go_simp; rfl)); intro gb224 hg w24 hbox hb; have n0_ := zh (below_step zb hb); have n1_ := zh (hbox); have n2_ := zh ((by rw [hg]; exact (below_size zb) : w.heap.size ≤ gb224)); have n3_ := zh ((by rw [hg]; exact (below_size zb) : w.heap.size ≤ gb224)); clear HB; have HB := n0_; have BK224 := n1_; have GW224 := n2_; have GE224 := n3_; clear n0_ n1_ n2_ n3_; clear hb hbox hg; have hcz25_0 : w24.cell? ⟨gb224, 0, none⟩ = some (.int .i64 a0_0) := vb BK224 0; have hcz25_1 : w24.cell? ⟨gb224, 1, none⟩ = some (.int .i64 a0_1) := vb BK224 1; have hcz25_2 : w24.cell? ⟨gb224, 2, none⟩ = some (.int .i64 a0_2) := vb BK224 2; have hcz25_3 : w24.cell? ⟨gb224, 3, none⟩ = some (.slice A0_3 l0_3.length c0_3) := vb BK224 3; have hfz25_0 := blk_frozen BK224.out 0; have hfz25_1 := blk_frozen BK224.out 1; have hfz25_2 := blk_frozen BK224.out 2; have hfz25_3 := blk_frozen BK224.out 3) | ((with_reducible refine gate_callee (f := 16) rfl ?_); refine goesL_ (some 15) rfl rfl Tryd.func16 zk rfl #[.agg #[.int .i64 a0_0, .int .i64 a0_1, .int .i64 a0_2, .slice A0_3 l0_3.length c0_3], .slice A1 l1.length c1, .int .i64 a2] rfl zm ?_; (with_reducible refine (kernel_Part.calls a0_0 a0_1 a0_2 _ _ l0_3 _ _ l1 a2 t225 t228 _ ?side1 ?side2 ?side3 ?side4 ?side5 A4.out).mono ?_); (case side1 => repeat (first | exact (Kd.C_below HR0_3.out HB.out) | (with_reducible refine Kd.C_alloc ?_ _) | (with_reducible refine Kd.C_drewN ?_ _) | (with_reducible refine Kd.C_drew ?_))); (case side2 => exact HC0_3.out); (case side3 => repeat (first | exact (Kd.C_below HR1.out HB.out) | (with_reducible refine Kd.C_alloc ?_ _) | (with_reducible refine Kd.C_drewN ?_ _) | (with_reducible refine Kd.C_drew ?_))); (case side4 => exact HC1.out); (case side5 => exact Glob.below HG.out zb); rintro e w26 ⟨v226, rfl, ho0, hb⟩; refine ⟨_, rfl, ?_⟩; have n0_ := zh (Kd.V_lower (Kd.V_mono (ok' := fun k_ => k_ ≠ gb224) ho0 (fun k_ hk_ => (Kd.freshB (g := gb224) (o := .cells #[.int .i64 a0_0, .int .i64 a0_1, .int .i64 a0_2, .slice A0_3 l0_3.length c0_3] 24 (0, 0)) (zc BK224) k_ hk_))) (below_size zb)); have n1_ := zh (blk_below (g := gb224) (o := .cells #[.int .i64 a0_0, .int .i64 a0_1, .int .i64 a0_2, .slice A0_3 l0_3.length c0_3] 24 (0, 0)) (zc BK224) hb); have n2_ := zh (below_step zb hb); clear BK224; clear HB; have HO227 := n0_; have BK224 := n1_; have HB := n2_; clear n0_ n1_ n2_; (try clear hb); (try clear hb2); (try clear hk); (try clear hi); (try clear ho0); have hcz27_0 : w26.cell? ⟨gb224, 0, none⟩ = some (.int .i64 a0_0) := vb BK224 0; have hcz27_1 : w26.cell? ⟨gb224, 1, none⟩ = some (.int .i64 a0_1) := vb BK224 1; have hcz27_2 : w26.cell? ⟨gb224, 2, none⟩ = some (.int .i64 a0_2) := vb BK224 2; have hcz27_3 : w26.cell? ⟨gb224, 3, none⟩ = some (.slice A0_3 l0_3.length c0_3) := vb BK224 3; have hfz27_0 := blk_frozen BK224.out 0; have hfz27_1 := blk_frozen BK224.out 1; have hfz27_2 := blk_frozen BK224.out 2; have hfz27_3 := blk_frozen BK224.out 3) | ((with_reducible refine gate_callee (f := 17) rfl ?_); refine goesL_ (some 22) rfl rfl Tryd.func17 zk rfl #[.agg #[.int .i64 a0_0, .int .i64 a0_1, .int .i64 a0_2, .slice A0_3 l0_3.length c0_3], .slice A1 l1.length c1, .int .i64 a2] rfl zm ?_; (with_reducible refine (saronref06_Part.calls k a0_0 a0_1 a0_2 _ _ l0_3 _ _ l1 a2 t229 t232 _ ?side1 ?side2 ?side3 ?side4 A5.out).mono ?_); (case side1 => repeat (first | exact (Kd.C_below HR0_3.out HB.out) | (with_reducible refine Kd.C_alloc ?_ _) | (with_reducible refine Kd.C_drewN ?_ _) | (with_reducible refine Kd.C_drew ?_))); (case side2 => exact HC0_3.out); (case side3 => repeat (first | exact (Kd.C_below HR1.out HB.out) | (with_reducible refine Kd.C_alloc ?_ _) | (with_reducible refine Kd.C_drewN ?_ _) | (with_reducible refine Kd.C_drew ?_))); (case side4 => exact HC1.out); rintro e w28 ⟨v230, rfl, ho0, hb⟩; refine ⟨_, rfl, ?_⟩; have n0_ := zh (Kd.V_elder' (zV HO227) (Kd.R_base ho0) hb); have n1_ := zh (Kd.R_lower ho0 (below_size zb)); have n2_ := zh (blk_below (g := gb224) (o := .cells #[.int .i64 a0_0, .int .i64 a0_1, .int .i64 a0_2, .slice A0_3 l0_3.length c0_3] 24 (0, 0)) (zc BK224) hb); have n3_ := zh (below_step zb hb); clear HO227; clear BK224; clear HB; have HO227 := n0_; have HO231 := n1_; have BK224 := n2_; have HB := n3_; clear n0_ n1_ n2_ n3_; (try clear hb); (try clear hb2); (try clear hk); (try clear hi); (try clear ho0)))
    replace HO227 := zh (Kd.V_drew HO227.out)
    replace HO231 := zh (Kd.R_drew HO231.out)
    replace BK224 := zh (blk_drew BK224.out)
    replace HB := zh (below_drew1 HB.out)
    obtain ⟨Ao30, co30, eo30⟩ := Kd.V_slice HO227.out
    (first | subst eo30 | (injection eo30 with f1_ f2_ f3_; have f4_ := f1_.symm; have f5_ := f3_.symm; clear f1_ f2_ f3_; subst f4_; subst f5_))
    obtain ⟨Ao31, co31, eo31⟩ := Kd.R_slice HO231.out
    (first | subst eo31 | (injection eo31 with f1_ f2_ f3_; have f4_ := f1_.symm; have f5_ := f3_.symm; clear f1_ f2_ f3_; subst f4_; subst f5_))
    refine start_ (n := 19) (S := fun w' => w'.cell? ⟨gb224, 0, none⟩ = some (.int .i64 a0_0) ∧ w'.cell? ⟨gb224, 1, none⟩ = some (.int .i64 a0_1) ∧ w'.cell? ⟨gb224, 2, none⟩ = some (.int .i64 a0_2) ∧ w'.cell? ⟨gb224, 3, none⟩ = some (.slice A0_3 l0_3.length c0_3)) (ds := []) (Array.replicate 19 false) zk rfl rfl ⟨vb BK224 0, vb BK224 1, vb BK224 2, vb BK224 3⟩ (fun hHeld => ?_); refine with_tabW saronlaw06_KernelParts.tab3 saronlaw06_KernelParts.bits3 (fun HT_ HW_ => ?_)
    generalize w28.drew = w29 at HO227 HO231 BK224 HB hHeld ⊢
    refine zu 0 ?_
    refine zu 1 ?_
    refine zo 2 (fun K hK => ?_)
    refine goes_ Tryd.func18 zk rfl #[.slice Ao30 t225.length co30, .slice Ao31 t229.length co31] (by rfl) rfl rfl zm ?_
    with_reducible refine (saronref00_Equal.calls k _ _ t225 _ _ t229 true _ ?side1 ?side2 ?side3 ?side4 A6.out).mono ?_
    (case side1 => repeat (first | exact (Kd.V_reads' HO227.out).2.2 | (with_reducible refine Kd.C_alloc ?_ _) | (with_reducible refine Kd.C_drewN ?_ _) | (with_reducible refine Kd.C_drew ?_)))
    (case side2 => exact (Kd.V_reads' HO227.out).2.1)
    (case side3 => repeat (first | exact (Kd.R_reads' HO231.out).2.2 | (with_reducible refine Kd.C_alloc ?_ _) | (with_reducible refine Kd.C_drewN ?_ _) | (with_reducible refine Kd.C_drew ?_)))
    (case side4 => exact (Kd.R_reads' HO231.out).2.1)
    rintro e w' ⟨rfl, ⟨nd, rfl⟩⟩
    refine ⟨_, rfl, ?_⟩
    refine hK.out _ _ ⟨vb BK224 0, vb BK224 1, vb BK224 2, vb BK224 3⟩ (fun hHeld => ?_)
    clear hK K
    refine zr 27 _ ?_
    refine zu 3 ?_
    refine zu 4 ?_
    refine zu 5 ?_
    refine zu 6 ?_
    refine zu 7 ?_
    refine zu 8 ?_
    refine zt 9 ?_
    refine zt 11 ?_
    refine zo 10 (fun K hK => ?_)
    refine goes_ Tryd.func19 zk rfl #[.agg #[.int .i64 a0_0, .int .i64 a0_1, .int .i64 a0_2, .slice A0_3 l0_3.length c0_3]] (by rfl) rfl rfl zm ?_
    with_reducible refine (kernel_Check.calls k a0_0 a0_1 a0_2 _ _ l0_3 t234 _ ?side1 ?side2 A9.out).mono ?_
    (case side1 => repeat (first | exact (Kd.C_below HR0_3.out zb) | (with_reducible refine Kd.C_alloc ?_ _) | (with_reducible refine Kd.C_drewN ?_ _) | (with_reducible refine Kd.C_drew ?_)))
    (case side2 => exact HC0_3.out)
    rintro e w32 ⟨rfl, hb⟩
    refine ⟨_, rfl, ?_⟩
    replace HO227 := zh (Kd.V_below (zV HO227) hb)
    replace HO231 := zh (Kd.R_below (zR HO231) hb)
    replace BK224 := zh (blk_below (g := gb224) (o := .cells #[.int .i64 a0_0, .int .i64 a0_1, .int .i64 a0_2, .slice A0_3 l0_3.length c0_3] 24 (0, 0)) (zc BK224) hb)
    replace HB := zh (below_step zb hb)
    (try clear hb)
    (try clear hb2)
    (try clear hk)
    (try clear hi)
    refine hK.out _ _ ⟨vb BK224 0, vb BK224 1, vb BK224 2, vb BK224 3⟩ (fun hHeld => ?_)
    clear hK K
    refine zr 35 _ ?_
    refine zo 12 (fun K hK => ?_)
    refine goes_ Tryd.func20 zk rfl #[.agg #[.int .i64 a0_0, .int .i64 a0_1, .int .i64 a0_2, .slice A0_3 l0_3.length c0_3]] (by rfl) rfl rfl zm ?_
    with_reducible refine (saronref06_Check.calls k a0_0 a0_1 a0_2 _ _ l0_3 t235 _ ?side1 ?side2 A10.out).mono ?_
    (case side1 => repeat (first | exact (Kd.C_below HR0_3.out HB.out) | (with_reducible refine Kd.C_alloc ?_ _) | (with_reducible refine Kd.C_drewN ?_ _) | (with_reducible refine Kd.C_drew ?_)))
    (case side2 => exact HC0_3.out)
    rintro e w33 ⟨rfl, hb⟩
    refine ⟨_, rfl, ?_⟩
    replace HO227 := zh (Kd.V_below (zV HO227) hb)
    replace HO231 := zh (Kd.R_below (zR HO231) hb)
    replace BK224 := zh (blk_below (g := gb224) (o := .cells #[.int .i64 a0_0, .int .i64 a0_1, .int .i64 a0_2, .slice A0_3 l0_3.length c0_3] 24 (0, 0)) (zc BK224) hb)
    replace HB := zh (below_step zb hb)
    (try clear hb)
    (try clear hb2)
    (try clear hk)
    (try clear hi)
    refine hK.out _ _ ⟨vb BK224 0, vb BK224 1, vb BK224 2, vb BK224 3⟩ (fun hHeld => ?_)
    clear hK K
    refine zr 37 _ ?_
    refine zu 13 ?_
    refine zu 14 ?_
    refine zu 15 ?_
    refine zn 16 ?_
    refine zu 17 ?_
    refine zu 18 ?_
    refine zd ?_
    try go_wp2
    go_ret
    exact ⟨zf, zb⟩
  ·rw [if_neg c8] at H
   have c8b0 : (t228 == t232) = false := beq_eq_false_iff_ne.mpr c8
   have c8b1 : (t228 != t232) = true := bne_iff_ne.mpr c8
   obtain rfl := Option.some.inj H
   go_enter Tryd.func3, Tryd.ntmps3
   try go_wp2_with (first | ((with_reducible refine gate_dst (N := 3) rfl ?_); refine box_event ?hg (N := 3) ?hd (cs := #[.int .i64 a0_0, .int .i64 a0_1, .int .i64 a0_2, .slice A0_3 l0_3.length c0_3]) (t := 24) ?hr ?_; (case hd => rfl); (case hg => rfl); (case hr => first | (go_simp; done) | (go_simp; rfl)); intro gb224 hg w34 hbox hb; have n0_ := zh (below_step zb hb); have n1_ := zh (hbox); have n2_ := zh ((by rw [hg]; exact (below_size zb) : w.heap.size ≤ gb224)); have n3_ := zh ((by rw [hg]; exact (below_size zb) : w.heap.size ≤ gb224)); clear HB; have HB := n0_; have BK224 := n1_; have GW224 := n2_; have GE224 := n3_; clear n0_ n1_ n2_ n3_; clear hb hbox hg; have hcz35_0 : w34.cell? ⟨gb224, 0, none⟩ = some (.int .i64 a0_0) := vb BK224 0; have hcz35_1 : w34.cell? ⟨gb224, 1, none⟩ = some (.int .i64 a0_1) := vb BK224 1; have hcz35_2 : w34.cell? ⟨gb224, 2, none⟩ = some (.int .i64 a0_2) := vb BK224 2; have hcz35_3 : w34.cell? ⟨gb224, 3, none⟩ = some (.slice A0_3 l0_3.length c0_3) := vb BK224 3; have hfz35_0 := blk_frozen BK224.out 0; have hfz35_1 := blk_frozen BK224.out 1; have hfz35_2 := blk_frozen BK224.out 2; have hfz35_3 := blk_frozen BK224.out 3) | ((with_reducible refine gate_callee (f := 16) rfl ?_); refine goesL_ (some 15) rfl rfl Tryd.func16 zk rfl #[.agg #[.int .i64 a0_0, .int .i64 a0_1, .int .i64 a0_2, .slice A0_3 l0_3.length c0_3], .slice A1 l1.length c1, .int .i64 a2] rfl zm ?_; (with_reducible refine (kernel_Part.calls a0_0 a0_1 a0_2 _ _ l0_3 _ _ l1 a2 t225 t228 _ ?side1 ?side2 ?side3 ?side4 ?side5 A4.out).mono ?_); (case side1 => repeat (first | exact (Kd.C_below HR0_3.out HB.out) | (with_reducible refine Kd.C_alloc ?_ _) | (with_reducible refine Kd.C_drewN ?_ _) | (with_reducible refine Kd.C_drew ?_))); (case side2 => exact HC0_3.out); (case side3 => repeat (first | exact (Kd.C_below HR1.out HB.out) | (with_reducible refine Kd.C_alloc ?_ _) | (with_reducible refine Kd.C_drewN ?_ _) | (with_reducible refine Kd.C_drew ?_))); (case side4 => exact HC1.out); (case side5 => exact Glob.below HG.out zb); rintro e w36 ⟨v226, rfl, ho0, hb⟩; refine ⟨_, rfl, ?_⟩; have n0_ := zh (Kd.V_lower (Kd.V_mono (ok' := fun k_ => k_ ≠ gb224) ho0 (fun k_ hk_ => (Kd.freshB (g := gb224) (o := .cells #[.int .i64 a0_0, .int .i64 a0_1, .int .i64 a0_2, .slice A0_3 l0_3.length c0_3] 24 (0, 0)) (zc BK224) k_ hk_))) (below_size zb)); have n1_ := zh (blk_below (g := gb224) (o := .cells #[.int .i64 a0_0, .int .i64 a0_1, .int .i64 a0_2, .slice A0_3 l0_3.length c0_3] 24 (0, 0)) (zc BK224) hb); have n2_ := zh (below_step zb hb); clear BK224; clear HB; have HO227 := n0_; have BK224 := n1_; have HB := n2_; clear n0_ n1_ n2_; (try clear hb); (try clear hb2); (try clear hk); (try clear hi); (try clear ho0); have hcz37_0 : w36.cell? ⟨gb224, 0, none⟩ = some (.int .i64 a0_0) := vb BK224 0; have hcz37_1 : w36.cell? ⟨gb224, 1, none⟩ = some (.int .i64 a0_1) := vb BK224 1; have hcz37_2 : w36.cell? ⟨gb224, 2, none⟩ = some (.int .i64 a0_2) := vb BK224 2; have hcz37_3 : w36.cell? ⟨gb224, 3, none⟩ = some (.slice A0_3 l0_3.length c0_3) := vb BK224 3; have hfz37_0 := blk_frozen BK224.out 0; have hfz37_1 := blk_frozen BK224.out 1; have hfz37_2 := blk_frozen BK224.out 2; have hfz37_3 := blk_frozen BK224.out 3) | ((with_reducible refine gate_callee (f := 17) rfl ?_); refine goesL_ (some 22) rfl rfl Tryd.func17 zk rfl #[.agg #[.int .i64 a0_0, .int .i64 a0_1, .int .i64 a0_2, .slice A0_3 l0_3.length c0_3], .slice A1 l1.length c1, .int .i64 a2] rfl zm ?_; (with_reducible refine (saronref06_Part.calls k a0_0 a0_1 a0_2 _ _ l0_3 _ _ l1 a2 t229 t232 _ ?side1 ?side2 ?side3 ?side4 A5.out).mono ?_); (case side1 => repeat (first | exact (Kd.C_below HR0_3.out HB.out) | (with_reducible refine Kd.C_alloc ?_ _) | (with_reducible refine Kd.C_drewN ?_ _) | (with_reducible refine Kd.C_drew ?_))); (case side2 => exact HC0_3.out); (case side3 => repeat (first | exact (Kd.C_below HR1.out HB.out) | (with_reducible refine Kd.C_alloc ?_ _) | (with_reducible refine Kd.C_drewN ?_ _) | (with_reducible refine Kd.C_drew ?_))); (case side4 => exact HC1.out); rintro e w38 ⟨v230, rfl, ho0, hb⟩; refine ⟨_, rfl, ?_⟩; have n0_ := zh (Kd.V_elder' (zV HO227) (Kd.R_base ho0) hb); have n1_ := zh (Kd.R_lower ho0 (below_size zb)); have n2_ := zh (blk_below (g := gb224) (o := .cells #[.int .i64 a0_0, .int .i64 a0_1, .int .i64 a0_2, .slice A0_3 l0_3.length c0_3] 24 (0, 0)) (zc BK224) hb); have n3_ := zh (below_step zb hb); clear HO227; clear BK224; clear HB; have HO227 := n0_; have HO231 := n1_; have BK224 := n2_; have HB := n3_; clear n0_ n1_ n2_ n3_; (try clear hb); (try clear hb2); (try clear hk); (try clear hi); (try clear ho0)))
   replace HO227 := zh (Kd.V_drew HO227.out)
   replace HO231 := zh (Kd.R_drew HO231.out)
   replace BK224 := zh (blk_drew BK224.out)
   replace HB := zh (below_drew1 HB.out)
   obtain ⟨Ao40, co40, eo40⟩ := Kd.V_slice HO227.out
   (first | subst eo40 | (injection eo40 with f1_ f2_ f3_; have f4_ := f1_.symm; have f5_ := f3_.symm; clear f1_ f2_ f3_; subst f4_; subst f5_))
   obtain ⟨Ao41, co41, eo41⟩ := Kd.R_slice HO231.out
   (first | subst eo41 | (injection eo41 with f1_ f2_ f3_; have f4_ := f1_.symm; have f5_ := f3_.symm; clear f1_ f2_ f3_; subst f4_; subst f5_))
   refine start_ (n := 19) (S := fun w' => True) (ds := []) (Array.replicate 19 false) zk rfl rfl trivial (fun hHeld => ?_); refine with_tabW saronlaw06_KernelParts.tab3 saronlaw06_KernelParts.bits3 (fun HT_ HW_ => ?_)
   generalize w38.drew = w39 at HO227 HO231 BK224 HB hHeld ⊢
   refine zu 0 ?_
   refine zu 1 ?_
   refine zo 2 (fun K hK => ?_)
   refine goes_ Tryd.func18 zk rfl #[.slice Ao40 t225.length co40, .slice Ao41 t229.length co41] (by rfl) rfl rfl zm ?_
   with_reducible refine (saronref00_Equal.calls k _ _ t225 _ _ t229 true _ ?side1 ?side2 ?side3 ?side4 A6.out).mono ?_
   (case side1 => repeat (first | exact (Kd.V_reads' HO227.out).2.2 | (with_reducible refine Kd.C_alloc ?_ _) | (with_reducible refine Kd.C_drewN ?_ _) | (with_reducible refine Kd.C_drew ?_)))
   (case side2 => exact (Kd.V_reads' HO227.out).2.1)
   (case side3 => repeat (first | exact (Kd.R_reads' HO231.out).2.2 | (with_reducible refine Kd.C_alloc ?_ _) | (with_reducible refine Kd.C_drewN ?_ _) | (with_reducible refine Kd.C_drew ?_)))
   (case side4 => exact (Kd.R_reads' HO231.out).2.1)
   rintro e w' ⟨rfl, ⟨nd, rfl⟩⟩
   refine ⟨_, rfl, ?_⟩
   refine hK.out _ _ trivial (fun hHeld => ?_)
   clear hK K
   refine zr 27 _ ?_
   refine zu 3 ?_
   refine zu 4 ?_
   refine zu 5 ?_
   refine zu 6 ?_
   refine zu 7 ?_
   refine zu 8 ?_
   refine zn 9 ?_
   refine zn 10 ?_
   refine zn 11 ?_
   refine zn 12 ?_
   refine zn 13 ?_
   refine zu 14 ?_
   refine zu 15 ?_
   refine zn 16 ?_
   refine zu 17 ?_
   refine zu 18 ?_
   refine zd ?_
   try go_wp2
   go_ret
   exact ⟨zf, zb⟩
 ·replace c7 := Bool.eq_false_iff.mpr c7
  subst c7
  have H1 : (some false) = some r := by rw [if_neg (show ¬ (false = true) by decide)] at H; exact H
  clear H
  have H := H1
  clear H1
  obtain rfl := Option.some.inj H
  go_enter Tryd.func3, Tryd.ntmps3
  try go_wp2_with (first | ((with_reducible refine gate_dst (N := 3) rfl ?_); refine box_event ?hg (N := 3) ?hd (cs := #[.int .i64 a0_0, .int .i64 a0_1, .int .i64 a0_2, .slice A0_3 l0_3.length c0_3]) (t := 24) ?hr ?_; (case hd => rfl); (case hg => rfl); (case hr => first | (go_simp; done) | (go_simp; rfl)); intro gb224 hg w42 hbox hb; have n0_ := zh (below_step zb hb); have n1_ := zh (hbox); have n2_ := zh ((by rw [hg]; exact (below_size zb) : w.heap.size ≤ gb224)); have n3_ := zh ((by rw [hg]; exact (below_size zb) : w.heap.size ≤ gb224)); clear HB; have HB := n0_; have BK224 := n1_; have GW224 := n2_; have GE224 := n3_; clear n0_ n1_ n2_ n3_; clear hb hbox hg; have hcz43_0 : w42.cell? ⟨gb224, 0, none⟩ = some (.int .i64 a0_0) := vb BK224 0; have hcz43_1 : w42.cell? ⟨gb224, 1, none⟩ = some (.int .i64 a0_1) := vb BK224 1; have hcz43_2 : w42.cell? ⟨gb224, 2, none⟩ = some (.int .i64 a0_2) := vb BK224 2; have hcz43_3 : w42.cell? ⟨gb224, 3, none⟩ = some (.slice A0_3 l0_3.length c0_3) := vb BK224 3; have hfz43_0 := blk_frozen BK224.out 0; have hfz43_1 := blk_frozen BK224.out 1; have hfz43_2 := blk_frozen BK224.out 2; have hfz43_3 := blk_frozen BK224.out 3) | ((with_reducible refine gate_callee (f := 16) rfl ?_); refine goesL_ (some 15) rfl rfl Tryd.func16 zk rfl #[.agg #[.int .i64 a0_0, .int .i64 a0_1, .int .i64 a0_2, .slice A0_3 l0_3.length c0_3], .slice A1 l1.length c1, .int .i64 a2] rfl zm ?_; (with_reducible refine (kernel_Part.calls a0_0 a0_1 a0_2 _ _ l0_3 _ _ l1 a2 t225 t228 _ ?side1 ?side2 ?side3 ?side4 ?side5 A4.out).mono ?_); (case side1 => repeat (first | exact (Kd.C_below HR0_3.out HB.out) | (with_reducible refine Kd.C_alloc ?_ _) | (with_reducible refine Kd.C_drewN ?_ _) | (with_reducible refine Kd.C_drew ?_))); (case side2 => exact HC0_3.out); (case side3 => repeat (first | exact (Kd.C_below HR1.out HB.out) | (with_reducible refine Kd.C_alloc ?_ _) | (with_reducible refine Kd.C_drewN ?_ _) | (with_reducible refine Kd.C_drew ?_))); (case side4 => exact HC1.out); (case side5 => exact Glob.below HG.out zb); rintro e w44 ⟨v226, rfl, ho0, hb⟩; refine ⟨_, rfl, ?_⟩; have n0_ := zh (Kd.V_lower (Kd.V_mono (ok' := fun k_ => k_ ≠ gb224) ho0 (fun k_ hk_ => (Kd.freshB (g := gb224) (o := .cells #[.int .i64 a0_0, .int .i64 a0_1, .int .i64 a0_2, .slice A0_3 l0_3.length c0_3] 24 (0, 0)) (zc BK224) k_ hk_))) (below_size zb)); have n1_ := zh (blk_below (g := gb224) (o := .cells #[.int .i64 a0_0, .int .i64 a0_1, .int .i64 a0_2, .slice A0_3 l0_3.length c0_3] 24 (0, 0)) (zc BK224) hb); have n2_ := zh (below_step zb hb); clear BK224; clear HB; have HO227 := n0_; have BK224 := n1_; have HB := n2_; clear n0_ n1_ n2_; (try clear hb); (try clear hb2); (try clear hk); (try clear hi); (try clear ho0); have hcz45_0 : w44.cell? ⟨gb224, 0, none⟩ = some (.int .i64 a0_0) := vb BK224 0; have hcz45_1 : w44.cell? ⟨gb224, 1, none⟩ = some (.int .i64 a0_1) := vb BK224 1; have hcz45_2 : w44.cell? ⟨gb224, 2, none⟩ = some (.int .i64 a0_2) := vb BK224 2; have hcz45_3 : w44.cell? ⟨gb224, 3, none⟩ = some (.slice A0_3 l0_3.length c0_3) := vb BK224 3; have hfz45_0 := blk_frozen BK224.out 0; have hfz45_1 := blk_frozen BK224.out 1; have hfz45_2 := blk_frozen BK224.out 2; have hfz45_3 := blk_frozen BK224.out 3) | ((with_reducible refine gate_callee (f := 17) rfl ?_); refine goesL_ (some 22) rfl rfl Tryd.func17 zk rfl #[.agg #[.int .i64 a0_0, .int .i64 a0_1, .int .i64 a0_2, .slice A0_3 l0_3.length c0_3], .slice A1 l1.length c1, .int .i64 a2] rfl zm ?_; (with_reducible refine (saronref06_Part.calls k a0_0 a0_1 a0_2 _ _ l0_3 _ _ l1 a2 t229 t232 _ ?side1 ?side2 ?side3 ?side4 A5.out).mono ?_); (case side1 => repeat (first | exact (Kd.C_below HR0_3.out HB.out) | (with_reducible refine Kd.C_alloc ?_ _) | (with_reducible refine Kd.C_drewN ?_ _) | (with_reducible refine Kd.C_drew ?_))); (case side2 => exact HC0_3.out); (case side3 => repeat (first | exact (Kd.C_below HR1.out HB.out) | (with_reducible refine Kd.C_alloc ?_ _) | (with_reducible refine Kd.C_drewN ?_ _) | (with_reducible refine Kd.C_drew ?_))); (case side4 => exact HC1.out); rintro e w46 ⟨v230, rfl, ho0, hb⟩; refine ⟨_, rfl, ?_⟩; have n0_ := zh (Kd.V_elder' (zV HO227) (Kd.R_base ho0) hb); have n1_ := zh (Kd.R_lower ho0 (below_size zb)); have n2_ := zh (blk_below (g := gb224) (o := .cells #[.int .i64 a0_0, .int .i64 a0_1, .int .i64 a0_2, .slice A0_3 l0_3.length c0_3] 24 (0, 0)) (zc BK224) hb); have n3_ := zh (below_step zb hb); clear HO227; clear BK224; clear HB; have HO227 := n0_; have HO231 := n1_; have BK224 := n2_; have HB := n3_; clear n0_ n1_ n2_ n3_; (try clear hb); (try clear hb2); (try clear hk); (try clear hi); (try clear ho0)))
  replace HO227 := zh (Kd.V_drew HO227.out)
  replace HO231 := zh (Kd.R_drew HO231.out)
  replace BK224 := zh (blk_drew BK224.out)
  replace HB := zh (below_drew1 HB.out)
  obtain ⟨Ao48, co48, eo48⟩ := Kd.V_slice HO227.out
  (first | subst eo48 | (injection eo48 with f1_ f2_ f3_; have f4_ := f1_.symm; have f5_ := f3_.symm; clear f1_ f2_ f3_; subst f4_; subst f5_))
  obtain ⟨Ao49, co49, eo49⟩ := Kd.R_slice HO231.out
  (first | subst eo49 | (injection eo49 with f1_ f2_ f3_; have f4_ := f1_.symm; have f5_ := f3_.symm; clear f1_ f2_ f3_; subst f4_; subst f5_))
  refine start_ (n := 19) (S := fun w' => True) (ds := []) (Array.replicate 19 false) zk rfl rfl trivial (fun hHeld => ?_); refine with_tabW saronlaw06_KernelParts.tab3 saronlaw06_KernelParts.bits3 (fun HT_ HW_ => ?_)
  generalize w46.drew = w47 at HO227 HO231 BK224 HB hHeld ⊢
  refine zu 0 ?_
  refine zu 1 ?_
  refine zo 2 (fun K hK => ?_)
  refine goes_ Tryd.func18 zk rfl #[.slice Ao48 t225.length co48, .slice Ao49 t229.length co49] (by rfl) rfl rfl zm ?_
  with_reducible refine (saronref00_Equal.calls k _ _ t225 _ _ t229 false _ ?side1 ?side2 ?side3 ?side4 A6.out).mono ?_
  (case side1 => repeat (first | exact (Kd.V_reads' HO227.out).2.2 | (with_reducible refine Kd.C_alloc ?_ _) | (with_reducible refine Kd.C_drewN ?_ _) | (with_reducible refine Kd.C_drew ?_)))
  (case side2 => exact (Kd.V_reads' HO227.out).2.1)
  (case side3 => repeat (first | exact (Kd.R_reads' HO231.out).2.2 | (with_reducible refine Kd.C_alloc ?_ _) | (with_reducible refine Kd.C_drewN ?_ _) | (with_reducible refine Kd.C_drew ?_)))
  (case side4 => exact (Kd.R_reads' HO231.out).2.1)
  rintro e w' ⟨rfl, ⟨nd, rfl⟩⟩
  refine ⟨_, rfl, ?_⟩
  refine hK.out _ _ trivial (fun hHeld => ?_)
  clear hK K
  refine zr 27 _ ?_
  refine zu 3 ?_
  refine zn 4 ?_
  refine zn 5 ?_
  refine zn 6 ?_
  refine zu 7 ?_
  refine zu 8 ?_
  refine zn 9 ?_
  refine zn 10 ?_
  refine zn 11 ?_
  refine zn 12 ?_
  refine zn 13 ?_
  refine zu 14 ?_
  refine zu 15 ?_
  refine zn 16 ?_
  refine zu 17 ?_
  refine zu 18 ?_
  refine zd ?_
  try go_wp2
  go_ret
  exact ⟨zf, zb⟩
end Go.Proofs.YtagkfkdoibnhfaaDoor.H
end
section
namespace Go.Proofs.YtagkfkdoibnhfaaDoor.K
open Go.RowKit Go.Proofs.YtagkfkdoibnhfaaDoorW.PrintWords Go.Proofs.YtagkfkdoibnhfaaDoor.H
theorem equal_l0 (l : List Int) (hl : l.length ≤ 9223372036854775807) : ∀ (d k i : Nat), l.length - i = d → i ≤ l.length → d + 1 ≤ k → saronref00_Equal.l0 k l l true (i : Int) = some true
 | 0, k, i, hd, hi, hk => by
  obtain ⟨k, rfl⟩ : ∃ m, k = m + 1 := ⟨k - 1, by omega⟩
  simp only [saronref00_Equal.l0, if_true]
  rw [if_neg (by omega)]
 | d + 1, k, i, hd, hi, hk => by
  obtain ⟨k, rfl⟩ : ∃ m, k = m + 1 := ⟨k - 1, by omega⟩
  have e : wrap64 ((i : Int) + 1) = ((i + 1 : Nat) : Int) := by rw [w64 (by omega) (by omega)]; simp
  simp only [saronref00_Equal.l0, if_true]
  rw [if_pos (by omega), if_pos (by omega), if_pos (by omega), e, beq_self_eq_true]
  exact equal_l0 l hl d k (i + 1) (by omega) (by omega) (by omega)
theorem equal_self (l : List Int) (hl : l.length ≤ 9223372036854775807) (k : Nat) (hk : l.length + 1 ≤ k) : saronref00_Equal.f k l l = some true := by
 unfold saronref00_Equal.f
 rw [beq_self_eq_true]
 exact equal_l0 l hl l.length k 0 rfl (by omega) (by omega)
theorem Part_len (T O L r : Int) (R : List S66) (l : List Int) : (Part T O L R l r).1.length ≤ 64 := by
 unfold Part
 split
 ·rename_i hS
  obtain ⟨t1, t2, t3, t4, t5, t6, t7, t8, t9, hok⟩ := okScale_regs hS
  split
  ·rename_i hP
   unfold okPart at hP
   simp only [Bool.and_eq_true, decide_eq_true_eq] at hP
   have := partOf_len T R r l
   have h := hP.1.1.1
   show (partOf T R r l).length ≤ 64
   omega
  ·simp
 ·simp
theorem parts_law (T O L r : Int) (R : List S66) (l : List Int) (hR : R.length ≤ 9223372036854775807) (hl : l.length ≤ 9223372036854775807) (k : Nat) (hk : 2 * R.length + 2 * l.length + 800 ≤ k) :
  saronlaw06_KernelParts.f k T O L R l r = some true := by
 have hp := Part_len T O L r R l
 unfold saronlaw06_KernelParts.f kernel_Part.f
 rw [Option.bind_some, rPart_f T O L r R l hR (by omega) k (by omega), Option.bind_some, equal_self _ (by omega) k (by omega), Option.bind_some, if_pos rfl, if_pos rfl,
  check_f T O L R hR k (by omega), Option.bind_some, rcheck_f T O L R hR k (by omega), Option.bind_some, if_pos rfl]
 rfl
end Go.Proofs.YtagkfkdoibnhfaaDoor.K
end
section
namespace Go.Proofs.YtagkfkdoibnhfaaDoor.kernelParts
open Go.ChangeShapes Go.WideShapes Go.ChangeAt Go.RowKit Go.Proofs.YtagkfkdoibnhfaaDoorW.PrintWords Go.Proofs.YtagkfkdoibnhfaaDoor.H Go.Proofs.YtagkfkdoibnhfaaDoor.K
set_option linter.unusedVariables false
theorem own : ownKnob Tryd.prog.godebug = none := by kernel_rfl
theorem laidOut : laidOutB Tryd.prog = true := by kernel_rfl
theorem door_met (os : Os) (args : Array Value) : laidMetH Tryd.prog laid1 ((World.doorLaid Tryd.prog 600 os).forCall (fun _ _ => 0) ⟨#[], args, []⟩).memory :=
 laidMetH_of_parts3 (fuel := 8) (laidMet_of_run' 8 zk zk) zk zk
set_option maxRecDepth 100000 in
set_option maxHeartbeats 2000000 in
theorem lifted (os : Os) (started : os.Started) (H : Type) (enc : TypeId × Value → H) :
  ReturnsInHanded {} Tryd.checked os 3 .any (fun w args => (Rows.kernelPartsSpec.pre enc Tryd.prog Tryd.f3 [] false w args ∧ laidMetH Tryd.prog laid1 w) ∧ sizedMet enc Tryd.prog Tryd.f3 (OpenSpec.ofChange Rows.kernelPartsSpec) false w args)
   (Rows.kernelPartsSpec.post enc Tryd.prog Tryd.f3 false true false false) := by
 refine returnsInHanded_of_change_and (C := Tryd.checked) (X := fun w _ => laidMetH Tryd.prog laid1 w) (fun _ _ _ hh h => h.of_heap hh) own started zk Tryd.func3
  (ChangeSpec.witness_shaped (enc := enc) (C := Tryd.checked) (os := os) (X := fun w _ => laidMetH Tryd.prog laid1 w) false (World.doorLaid Tryd.prog 600 os) #[.agg #[.int .i64 0, .int .i64 0, .int .i64 0, .slice none 0 0], .slice none 0 0, .int .i64 0] 8 rfl (World.shaped_of_RefB zk zk) zk zk zk (door_met os _)) ?_
 intro W base args ds gs before hval0 hW _ _ hL _
 have hval : ∀ (j : Nat) t v, Tryd.f3.params[j]? = some t → args[j]? = some v → Value.okWide Tryd.prog W .any base t v := hval0
 have hW' := hW
 obtain ⟨p, q, hA0, hV, rfl, hfz, hnd⟩ := hW
 have hA : DataW.TrodAll enc Tryd.prog W 0 (fun _ => true) true Tryd.f3.params.toList args.toList ds p := hA0
 rw [Tryd.params3] at hA hval
 obtain ⟨v0, vs0, d0, ds0, p0, q0, hargs, rfl, rfl, h0, r0⟩ := trodAll_cons hA
 obtain ⟨v1, vs1, d1, ds1, p1, q1, rfl, rfl, rfl, h1, r1⟩ := trodAll_cons r0
 obtain ⟨v2, vs2, d2, ds2, p2, q2, rfl, rfl, rfl, h2, r2⟩ := trodAll_cons r1
 obtain ⟨rfl, rfl, rfl⟩ := trodAll_nil r2
 obtain rfl : args = #[v0, v1, v2] := by cases args; simp_all
 obtain ⟨rfl, rfl⟩ := trodVars_none hV
 have k0 := h0
 have lt0 : ∀ x ∈ p0, x.block < W.heap.size := by obtain ⟨m, hm⟩ := k0; exact DataW.trod_lt m _ _ _ hm
 obtain ⟨T0, O0, L0, A0, R0, c0, rfl, hc0, hC0, iT0, iO0, iL0, sR0, iR0⟩ := arg_scale (hval 0 24 v0 rfl rfl) h0
 have k1 := h1
 have lt1 : ∀ x ∈ p1, x.block < W.heap.size := by obtain ⟨m, hm⟩ := k1; exact DataW.trod_lt m _ _ _ hm
 obtain ⟨A1, l1, c1, rfl, hc1, hC1, s1, i1⟩ := arg_ints (hval 1 25 v1 rfl rfl) h1
 obtain ⟨a2, rfl, rfl, rfl, w2⟩ := open_int Tryd.underlying3 (hval 2 3 v2 rfl rfl) h2
 clear hA0 hval0
 have hG := glob_of_laid hL
 refine (saronlaw06_KernelParts.calls (2 * R0.length + 2 * l1.length + 800) T0 O0 L0 A0 c0 R0 A1 c1 l1 a2 true W hC0 hc0 hC1 hc1 hG (parts_law T0 O0 L0 a2 R0 l1 sR0 s1 _ (Nat.le_refl _))).mono fun e W' ⟨he, bel⟩ => ?_
 subst he
 exact ⟨_, rfl, _, _, _, [], _, [], hW', trodAll_mk1 (shut_bool Tryd.underlying4 _), (trodAll_cons_mk (Below.trod laidOut zk (of_decide_eq_true zk) k0 bel lt0) (trodAll_cons_mk (Below.trod laidOut zk (of_decide_eq_true zk) k1 bel lt1) (trodAll_cons_mk (shut_int Tryd.underlying3 w2) trodAll_mk0))), rfl, bel.frame _, fun h => by cases h⟩
theorem over : Rows.kernelPartsRow.holds Tryd.pinned (OpenSpec.ofChange Rows.kernelPartsSpec) :=
 OpenClaim.holds_of_wide 3 Tryd.f3 rfl rfl rfl rfl rfl rfl rfl ⟨rfl, rfl, rfl, rfl, rfl⟩ rfl rfl rfl rfl rfl zk Tryd.func3 zk
  (of_decide_eq_true zk) (by unfold Func.isWrapper; first | (rw [if_pos (by decide +kernel)]; kernel_rfl) | (rw [if_neg (by decide +kernel)]; exact ⟨rfl, rfl⟩))
  (fun os started H enc _ => lifted os started H enc)
theorem proved : Rows.KernelPartsCardSaid :=
 Claim7.holds_tied_plain_at .later [] [.funcs] true (true, "1546f209dbcbef264cbb20aea537f6d5569935ba401e115858a8843598e79524") false
  over (fun _ h => by cases h) zk (fun _ h => by cases h) kernelParts_row_tie rfl ⟨rfl, rfl⟩ zk rfl
  (fun f fn hf hfn => by
   obtain rfl : f = 3 := Option.some.inj ((show Tryd.prog.funcNamed "saron/saronlaw06.KernelParts" = some 3 by kernel_rfl).symm.trans hf) |>.symm
   obtain rfl : fn = Tryd.f3 := (Option.some.inj (Tryd.func3.symm.trans hfn)).symm
   exact ⟨by kernel_rfl, fun j t ht => by
    rw [Tryd.params3] at ht
    have hm : t ∈ [24, 25, 3] := by simpa using Array.mem_of_getElem? ht
    have hall : ([24, 25, 3].all fun u => !Tryd.prog.wantsStandIn u) = true := by kernel_rfl
    exact (show Tryd.prog.wantsStandIn t = false by simpa using List.all_eq_true.1 hall t hm)⟩)
  zk
end Go.Proofs.YtagkfkdoibnhfaaDoor.kernelParts
namespace Go.Proofs.YtagkfkdoibnhfaaDoor
theorem kernelParts_card : Rows.KernelPartsCardSaid := kernelParts.proved
end Go.Proofs.YtagkfkdoibnhfaaDoor
end
