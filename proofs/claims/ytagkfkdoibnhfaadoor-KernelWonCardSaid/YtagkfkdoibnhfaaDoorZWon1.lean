/- KernelWon: for every scale and anything heard the law returns true, and each argument reads afterwards as it read before. Condition: when the call begins the package's table of rules reads as the program's text lays it; the card ties that to the text. -/
import Derived.Test.YtagkfkdoibnhfaaDoorZB2
import Derived.Test.YtagkfkdoibnhfaaDoorZB4
namespace Go.Proofs
theorem dWo1 {p : Prop} (h : p := by (with_reducible repeat (first | refine blk_drewN ?_ _ | refine blk_drew ?_ | refine blk_alloc ?_ _)); refine blk_put (cs := #[.int .i64 ((rd_T66 l0_3 a1).f0), .int .i64 ((rd_T66 l0_3 a1).f1), .int .i64 ((rd_T66 l0_3 a1).f2), .int .i64 0]) ?_ 3 _ rfl; (with_reducible repeat (first | refine blk_drewN ?_ _ | refine blk_drew ?_ | refine blk_alloc ?_ _)); refine blk_put (cs := #[.int .i64 ((rd_T66 l0_3 a1).f0), .int .i64 ((rd_T66 l0_3 a1).f1), .int .i64 0, .int .i64 0]) ?_ 2 _ rfl; (with_reducible repeat (first | refine blk_drewN ?_ _ | refine blk_drew ?_ | refine blk_alloc ?_ _)); refine blk_put (cs := #[.int .i64 ((rd_T66 l0_3 a1).f0), .int .i64 0, .int .i64 0, .int .i64 0]) ?_ 1 _ rfl; (with_reducible repeat (first | refine blk_drewN ?_ _ | refine blk_drew ?_ | refine blk_alloc ?_ _)); refine blk_put (cs := #[.int .i64 0, .int .i64 0, .int .i64 0, .int .i64 0]) ?_ 0 _ rfl; (with_reducible repeat (first | refine blk_drewN ?_ _ | refine blk_drew ?_ | refine blk_alloc ?_ _)); exact BK134.out) : p := h
theorem dWo2 {p : Prop} (h : p := by (with_reducible repeat (first | refine blk_drewN ?_ _ | refine blk_drew ?_ | refine blk_alloc ?_ _)); refine blk_far ?_ NB132_134.out _; (with_reducible repeat (first | refine blk_drewN ?_ _ | refine blk_drew ?_ | refine blk_alloc ?_ _)); refine blk_far ?_ NB132_134.out _; (with_reducible repeat (first | refine blk_drewN ?_ _ | refine blk_drew ?_ | refine blk_alloc ?_ _)); refine blk_far ?_ NB132_134.out _; (with_reducible repeat (first | refine blk_drewN ?_ _ | refine blk_drew ?_ | refine blk_alloc ?_ _)); refine blk_far ?_ NB132_134.out _; (with_reducible repeat (first | refine blk_drewN ?_ _ | refine blk_drew ?_ | refine blk_alloc ?_ _)); exact BK132.out) : p := h
end Go.Proofs
section
namespace Go.Proofs.YtagkfkdoibnhfaaDoor.H
open Go.RowKit Go.Proofs.YtagkfkdoibnhfaaDoorW.PrintWords Go.Proofs.YtagkfkdoibnhfaaDoorW.PrintLast Go.Proofs.YtagkfkdoibnhfaaDoorW.PrintMore
attribute [local go_sem] max2_int min2_int max_two min_two max_three min_three max_four min_four   -- for this text's walks alone
set_option linter.unusedVariables false
set_option linter.unusedSimpArgs false
def saronref06_tones.f (a0_0 : Int) (a0_1 : Int) (a0_2 : Int) (l0_3 : List (S66)) : Option (Int) := some (wrap64 (a0_0 * a0_1))
set_option maxHeartbeats 8000000 in
set_option maxRecDepth 100000 in
theorem saronref06_tones.calls (a0_0 : Int) (a0_1 : Int) (a0_2 : Int) (A0_3 : Option Addr) (c0_3 : Nat) (l0_3 : List (S66)) (r : Int) (w : World) (hr0_3 : Kd.C k66 w A0_3 l0_3.length l0_3) (hc0_3 : l0_3.length ≤ c0_3) (h : saronref06_tones.f a0_0 a0_1 a0_2 l0_3 = some r) :
  Calls Tryd.prog 58 #[.agg #[.int .i64 a0_0, .int .i64 a0_1, .int .i64 a0_2, .slice A0_3 l0_3.length c0_3]] w fun e w' => e = .returned (.int .i64 r) ∧ Below w.heap.size w w' := by
 have hu24 := Tryd.underlying24
 have HR0_3 := zh hr0_3
 have HC0_3 := zh hc0_3
 clear hr0_3 hc0_3
 have HB := zh (Below.refl w.heap.size w)
 have H : (some (wrap64 (a0_0 * a0_1))) = some r := h
 clear h
 obtain rfl := Option.some.inj H
 go_enter Tryd.func58, Tryd.ntmps58
 go_wp2_with (first | ((with_reducible refine gate_dst (N := 1) rfl ?_); refine box_event ?hg (N := 1) ?hd (cs := #[.int .i64 a0_0, .int .i64 a0_1, .int .i64 a0_2, .slice A0_3 l0_3.length c0_3]) (t := 24) ?hr ?_; (case hd => rfl); (case hg => rfl); (case hr => first | (go_simp; done) | (go_simp; rfl)); intro gb112 hg w2 hbox hb; have n0_ := zh (below_step zb hb); have n1_ := zh (hbox); have n2_ := zh ((by rw [hg]; exact (below_size zb) : w.heap.size ≤ gb112)); have n3_ := zh ((by rw [hg]; exact (below_size zb) : w.heap.size ≤ gb112)); clear HB; have HB := n0_; have BK112 := n1_; have GW112 := n2_; have GE112 := n3_; clear n0_ n1_ n2_ n3_; clear hb hbox hg; have hcz3_0 : w2.cell? ⟨gb112, 0, none⟩ = some (.int .i64 a0_0) := vb BK112 0; have hcz3_1 : w2.cell? ⟨gb112, 1, none⟩ = some (.int .i64 a0_1) := vb BK112 1; have hcz3_2 : w2.cell? ⟨gb112, 2, none⟩ = some (.int .i64 a0_2) := vb BK112 2; have hcz3_3 : w2.cell? ⟨gb112, 3, none⟩ = some (.slice A0_3 l0_3.length c0_3) := vb BK112 3; have hfz3_0 := blk_frozen BK112.out 0; have hfz3_1 := blk_frozen BK112.out 1; have hfz3_2 := blk_frozen BK112.out 2; have hfz3_3 := blk_frozen BK112.out 3))
 go_ret
 exact ⟨zf, zb⟩
end Go.Proofs.YtagkfkdoibnhfaaDoor.H
end
section
namespace Go.Proofs.YtagkfkdoibnhfaaDoor.H
open Go.RowKit Go.Proofs.YtagkfkdoibnhfaaDoorW.PrintWords Go.Proofs.YtagkfkdoibnhfaaDoorW.PrintLast Go.Proofs.YtagkfkdoibnhfaaDoorW.PrintMore
attribute [local go_sem] max2_int min2_int max_two min_two max_three min_three max_four min_four   -- for this text's walks alone
set_option linter.unusedVariables false
set_option linter.unusedSimpArgs false
mutual
def saronref06_Check.j0 : Nat → Bool → Int → Int → Int → List (S66) → Option (Int)
 | 0, _, _, _, _, _ => none
 | k + 1, x3, x116000, x116001, x116002, x116003 => saronref06_Check.l0 k x3 0 x116000 x116001 x116002 x116003
def saronref06_Check.l0 : Nat → Bool → Int → Int → Int → Int → List (S66) → Option (Int)
 | 0, _, _, _, _, _, _ => none
 | k + 1, x3, x4, x116000, x116001, x116002, x116003 => if x3 = true then (saronref06_Check.j2 k x3 x4 (decide (x4 < (x116003.length : Int))) x116000 x116001 x116002 x116003) else (saronref06_Check.j2 k x3 x4 false x116000 x116001 x116002 x116003)
def saronref06_Check.j2 : Nat → Bool → Int → Bool → Int → Int → Int → List (S66) → Option (Int)
 | 0, _, _, _, _, _, _, _ => none
 | k + 1, x3, x4, x38, x116000, x116001, x116002, x116003 => if x38 = true then (if 0 ≤ x4 then (if x4 < (x116003.length : Int) then ((saronref00_Sits.f ((rd_T66 x116003 x4).f0) 0 4).bind fun t122 => (if t122 = true then ((saronref00_Band.f ((rd_T66 x116003 x4).f1) ((rd_T66 x116003 x4).f2)).bind fun bt123 => ((saronref06_tones.f x116000 x116001 x116002 x116003).bind fun t125 => ((saronref00_Good.f bt123.1 bt123.2 0 (wrap64 (t125 - 1))).bind fun t126 => (if t126 = true then ((saronref00_Sits.f ((rd_T66 x116003 x4).f3) (-6) 6).bind fun t127 => (saronref06_Check.l0 k t127 (wrap64 (x4 + 1)) x116000 x116001 x116002 x116003)) else (saronref06_Check.l0 k false (wrap64 (x4 + 1)) x116000 x116001 x116002 x116003))))) else (saronref06_Check.l0 k false (wrap64 (x4 + 1)) x116000 x116001 x116002 x116003))) else (none)) else (none)) else (if x3 = true then (some 0) else (some 60))
end
def saronref06_Check.f (k : Nat) (a0_0 : Int) (a0_1 : Int) (a0_2 : Int) (l0_3 : List (S66)) : Option (Int) := (saronref00_Sits.f a0_0 2 7).bind fun t116 => (if t116 = true then ((saronref00_Sits.f a0_1 1 3).bind fun t117 => (if t117 = true then ((saronref00_Sits.f a0_2 2 16).bind fun t118 => (if t118 = true then (if (Int.tmod a0_2 2) = 0 then ((saronref00_Sits.f (l0_3.length : Int) 1 5).bind fun t119 => (saronref06_Check.j0 k t119 a0_0 a0_1 a0_2 l0_3)) else (saronref06_Check.j0 k false a0_0 a0_1 a0_2 l0_3)) else (saronref06_Check.j0 k false a0_0 a0_1 a0_2 l0_3))) else (saronref06_Check.j0 k false a0_0 a0_1 a0_2 l0_3))) else (saronref06_Check.j0 k false a0_0 a0_1 a0_2 l0_3))
def saronref06_Check.T6 : Bool × List (List Nat × List Nat) := (true, [([], []), ([0], [0]), ([1], [1]), ([2, 2], [2]), ([3], [3]), ([4, 3], [3, 4]), ([3], [3]), ([6, 3], [3, 6]), ([5, 7, 3, 3], [3, 5, 7]), ([3], [3]), ([9, 8, 3], [3, 9]), ([10, 3], [3, 10]), ([8, 11, 10, 3], [3, 8, 11]), ([3, 12], [3, 12]), ([13, 12], [13]), ([14], [14]), ([15, 14], [14, 15]), ([16, 14, 14], [14, 16]), ([14, 17], [14, 17]), ([18, 17, 0, 1, 2, 3, 4, 5, 6, 7, 8, 9, 10, 11, 12, 13, 14, 15, 16, 17, 18], [18])])
def saronref06_Check.B6 : List Nat := [0, 1, 3, 7, 15, 31, 15, 79, 255, 15, 1023, 2047, 4095, 8191, 16383, 32767, 65535, 131071, 262143, 524287]
theorem saronref06_Check.tab6 : rtab .any (opsOf Tryd.f20 6) = saronref06_Check.T6 := by kernel_rfl
theorem saronref06_Check.bits6 : waitsOk saronref06_Check.T6.2 saronref06_Check.B6 = true := by kernel_rfl
set_option maxHeartbeats 8000000 in
set_option maxRecDepth 100000 in
theorem saronref06_Check.calls (k : Nat) (a0_0 : Int) (a0_1 : Int) (a0_2 : Int) (A0_3 : Option Addr) (c0_3 : Nat) (l0_3 : List (S66)) (r : Int) (w : World) (hr0_3 : Kd.C k66 w A0_3 l0_3.length l0_3) (hc0_3 : l0_3.length ≤ c0_3) (h : saronref06_Check.f k a0_0 a0_1 a0_2 l0_3 = some r) :
  Calls Tryd.prog 20 #[.agg #[.int .i64 a0_0, .int .i64 a0_1, .int .i64 a0_2, .slice A0_3 l0_3.length c0_3]] w fun e w' => e = .returned (.int .i64 r) ∧ Below w.heap.size w w' := by
 have hu24 := Tryd.underlying24
 have hu66 := Tryd.underlying66
 have HR0_3 := zh hr0_3
 have HC0_3 := zh hc0_3
 clear hr0_3 hc0_3
 have HB := zh (Below.refl w.heap.size w)
 have H : ((saronref00_Sits.f a0_0 2 7).bind fun t116 => (if t116 = true then ((saronref00_Sits.f a0_1 1 3).bind fun t117 => (if t117 = true then ((saronref00_Sits.f a0_2 2 16).bind fun t118 => (if t118 = true then (if (Int.tmod a0_2 2) = 0 then ((saronref00_Sits.f (l0_3.length : Int) 1 5).bind fun t119 => (saronref06_Check.j0 k t119 a0_0 a0_1 a0_2 l0_3)) else (saronref06_Check.j0 k false a0_0 a0_1 a0_2 l0_3)) else (saronref06_Check.j0 k false a0_0 a0_1 a0_2 l0_3))) else (saronref06_Check.j0 k false a0_0 a0_1 a0_2 l0_3))) else (saronref06_Check.j0 k false a0_0 a0_1 a0_2 l0_3))) = some r := h
 clear h
 have HC2 := zh H
 clear H
 go_enter Tryd.func20, Tryd.ntmps20
 go_upto_region 1 with (first | ((with_reducible refine gate_dst (N := 1) rfl ?_); (try (refine gate_guard (by rfl) ?_; dsimp only)); refine box_event ?hg (N := 1) ?hd (cs := #[.int .i64 a0_0, .int .i64 a0_1, .int .i64 a0_2, .slice A0_3 l0_3.length c0_3]) (t := 24) ?hr ?_; (case hd => rfl); (case hg => rfl); (case hr => first | (go_simp; done) | (go_simp; rfl)); intro gb115 hg w3 hbox hb; have n0_ := zh (below_step zb hb); have n1_ := zh (hbox); have n2_ := zh ((by rw [hg]; exact (below_size zb) : w.heap.size ≤ gb115)); have n3_ := zh ((by rw [hg]; exact (below_size zb) : w.heap.size ≤ gb115)); clear HB; have HB := n0_; have BK115 := n1_; have GW115 := n2_; have GE115 := n3_; clear n0_ n1_ n2_ n3_; clear hb hbox hg))
 (try simp only [Act.put, List.setIfInBounds_toArray, List.set_cons_zero, List.set_cons_succ])
 go_cut [3] (fun v3 wc => ∃ (kq : Nat) (x3_1 : Bool), v3 = .bool x3_1 ∧ Aside0 (saronref06_Check.j0 kq x3_1 a0_0 a0_1 a0_2 l0_3 = some r) ∧ Aside0 (kq ≤ k) ∧ Aside0 (wc.heap[gb115]? = some (.cells #[.int .i64 a0_0, .int .i64 a0_1, .int .i64 a0_2, (.slice A0_3 l0_3.length c0_3)] 24 (0, 0))) ∧ Aside0 (Below w.heap.size w wc))
 case first =>
  have H := HC2.out
  clear HC2
  replace H := Option.bind_eq_some_iff.mp H
  obtain ⟨t116, A40, H⟩ := H
  replace H : (if t116 = true then ((saronref00_Sits.f a0_1 1 3).bind fun t117 => (if t117 = true then ((saronref00_Sits.f a0_2 2 16).bind fun t118 => (if t118 = true then (if (Int.tmod a0_2 2) = 0 then ((saronref00_Sits.f (l0_3.length : Int) 1 5).bind fun t119 => (saronref06_Check.j0 k t119 a0_0 a0_1 a0_2 l0_3)) else (saronref06_Check.j0 k false a0_0 a0_1 a0_2 l0_3)) else (saronref06_Check.j0 k false a0_0 a0_1 a0_2 l0_3))) else (saronref06_Check.j0 k false a0_0 a0_1 a0_2 l0_3))) else (saronref06_Check.j0 k false a0_0 a0_1 a0_2 l0_3)) = some r := H
  have A4 := zh A40
  clear A40
  by_cases c5 : t116 = true
  ·subst c5
   have H1 : ((saronref00_Sits.f a0_1 1 3).bind fun t117 => (if t117 = true then ((saronref00_Sits.f a0_2 2 16).bind fun t118 => (if t118 = true then (if (Int.tmod a0_2 2) = 0 then ((saronref00_Sits.f (l0_3.length : Int) 1 5).bind fun t119 => (saronref06_Check.j0 k t119 a0_0 a0_1 a0_2 l0_3)) else (saronref06_Check.j0 k false a0_0 a0_1 a0_2 l0_3)) else (saronref06_Check.j0 k false a0_0 a0_1 a0_2 l0_3))) else (saronref06_Check.j0 k false a0_0 a0_1 a0_2 l0_3))) = some r := by rw [if_pos rfl] at H; exact H
   clear H
   have H := H1
   clear H1
   replace H := Option.bind_eq_some_iff.mp H
   obtain ⟨t117, A60, H⟩ := H
   replace H : (if t117 = true then ((saronref00_Sits.f a0_2 2 16).bind fun t118 => (if t118 = true then (if (Int.tmod a0_2 2) = 0 then ((saronref00_Sits.f (l0_3.length : Int) 1 5).bind fun t119 => (saronref06_Check.j0 k t119 a0_0 a0_1 a0_2 l0_3)) else (saronref06_Check.j0 k false a0_0 a0_1 a0_2 l0_3)) else (saronref06_Check.j0 k false a0_0 a0_1 a0_2 l0_3))) else (saronref06_Check.j0 k false a0_0 a0_1 a0_2 l0_3)) = some r := H
   have A6 := zh A60
   clear A60
   by_cases c7 : t117 = true
   ·subst c7
    have H1 : ((saronref00_Sits.f a0_2 2 16).bind fun t118 => (if t118 = true then (if (Int.tmod a0_2 2) = 0 then ((saronref00_Sits.f (l0_3.length : Int) 1 5).bind fun t119 => (saronref06_Check.j0 k t119 a0_0 a0_1 a0_2 l0_3)) else (saronref06_Check.j0 k false a0_0 a0_1 a0_2 l0_3)) else (saronref06_Check.j0 k false a0_0 a0_1 a0_2 l0_3))) = some r := by rw [if_pos rfl] at H; exact H
    clear H
    have H := H1
    clear H1
    replace H := Option.bind_eq_some_iff.mp H
    obtain ⟨t118, A80, H⟩ := H
    replace H : (if t118 = true then (if (Int.tmod a0_2 2) = 0 then ((saronref00_Sits.f (l0_3.length : Int) 1 5).bind fun t119 => (saronref06_Check.j0 k t119 a0_0 a0_1 a0_2 l0_3)) else (saronref06_Check.j0 k false a0_0 a0_1 a0_2 l0_3)) else (saronref06_Check.j0 k false a0_0 a0_1 a0_2 l0_3)) = some r := H
    have A8 := zh A80
    clear A80
    by_cases c9 : t118 = true
    ·subst c9
     have H1 : (if (Int.tmod a0_2 2) = 0 then ((saronref00_Sits.f (l0_3.length : Int) 1 5).bind fun t119 => (saronref06_Check.j0 k t119 a0_0 a0_1 a0_2 l0_3)) else (saronref06_Check.j0 k false a0_0 a0_1 a0_2 l0_3)) = some r := by rw [if_pos rfl] at H; exact H
     clear H
     have H := H1
     clear H1
     by_cases c10 : (Int.tmod a0_2 2) = 0
     ·rw [if_pos c10] at H
      have c10b0 : ((Int.tmod a0_2 2) == 0) = true := beq_iff_eq.mpr c10
      have c10b1 : ((Int.tmod a0_2 2) != 0) = false := bne_eq_false_iff_eq.mpr c10
      clear c10
      (first | rw [c10b0] | (simp only [i64_w, i32_w]; rw [c10b0]) | skip)
      replace H := Option.bind_eq_some_iff.mp H
      obtain ⟨t119, A110, H⟩ := H
      replace H : (saronref06_Check.j0 k t119 a0_0 a0_1 a0_2 l0_3) = some r := H
      have A11 := zh A110
      clear A110
      have H' := zh H
      clear H
      have hcz12_0 : w3.cell? ⟨gb115, 0, none⟩ = some (.int .i64 a0_0) := vb BK115 0
      have hcz12_1 : w3.cell? ⟨gb115, 1, none⟩ = some (.int .i64 a0_1) := vb BK115 1
      have hcz12_2 : w3.cell? ⟨gb115, 2, none⟩ = some (.int .i64 a0_2) := vb BK115 2
      have hcz12_3 : w3.cell? ⟨gb115, 3, none⟩ = some (.slice A0_3 l0_3.length c0_3) := vb BK115 3
      have hfz12_0 := blk_frozen BK115.out 0
      have hfz12_1 := blk_frozen BK115.out 1
      have hfz12_2 := blk_frozen BK115.out 2
      have hfz12_3 := blk_frozen BK115.out 3
      go_wp2_with (first | ((with_reducible refine gate_callee (f := 45) rfl ?_); refine goesL_ (some 8) rfl rfl Tryd.func45 zk rfl #[.int .i64 a0_0, .int .i64 2, .int .i64 7] rfl zm ?_; (with_reducible refine (saronref00_Sits.calls a0_0 2 7 true _ A4.out).mono ?_); rintro e w' ⟨rfl, ⟨nd, rfl⟩⟩; refine ⟨_, rfl, ?_⟩) | (go_at_call 45; (with_reducible refine (saronref00_Sits.calls a0_1 1 3 true _ A6.out).mono ?_); rintro e w' ⟨rfl, ⟨nd, rfl⟩⟩) | (go_at_call 45; (with_reducible refine (saronref00_Sits.calls a0_2 2 16 true _ A8.out).mono ?_); rintro e w' ⟨rfl, ⟨nd, rfl⟩⟩) | (go_at_call 45; (with_reducible refine (saronref00_Sits.calls (l0_3.length : Int) 1 5 t119 _ A11.out).mono ?_); rintro e w' ⟨rfl, ⟨nd, rfl⟩⟩))
      go_meet
      case rel => exact ⟨_, (t119), ze, H', ⟨zo1⟩, ⟨zc BK115⟩, ⟨zb⟩⟩
     ·rw [if_neg c10] at H
      have c10b0 : ((Int.tmod a0_2 2) == 0) = false := beq_eq_false_iff_ne.mpr c10
      have c10b1 : ((Int.tmod a0_2 2) != 0) = true := bne_iff_ne.mpr c10
      (first | rw [c10b0] | (simp only [i64_w, i32_w]; rw [c10b0]) | skip)
      have H' := zh H
      clear H
      have hcz13_0 : w3.cell? ⟨gb115, 0, none⟩ = some (.int .i64 a0_0) := vb BK115 0
      have hcz13_1 : w3.cell? ⟨gb115, 1, none⟩ = some (.int .i64 a0_1) := vb BK115 1
      have hcz13_2 : w3.cell? ⟨gb115, 2, none⟩ = some (.int .i64 a0_2) := vb BK115 2
      have hcz13_3 : w3.cell? ⟨gb115, 3, none⟩ = some (.slice A0_3 l0_3.length c0_3) := vb BK115 3
      have hfz13_0 := blk_frozen BK115.out 0
      have hfz13_1 := blk_frozen BK115.out 1
      have hfz13_2 := blk_frozen BK115.out 2
      have hfz13_3 := blk_frozen BK115.out 3
      go_wp2_with (first | ((with_reducible refine gate_callee (f := 45) rfl ?_); refine goesL_ (some 8) rfl rfl Tryd.func45 zk rfl #[.int .i64 a0_0, .int .i64 2, .int .i64 7] rfl zm ?_; (with_reducible refine (saronref00_Sits.calls a0_0 2 7 true _ A4.out).mono ?_); rintro e w' ⟨rfl, ⟨nd, rfl⟩⟩; refine ⟨_, rfl, ?_⟩) | (go_at_call 45; (with_reducible refine (saronref00_Sits.calls a0_1 1 3 true _ A6.out).mono ?_); rintro e w' ⟨rfl, ⟨nd, rfl⟩⟩) | (go_at_call 45; (with_reducible refine (saronref00_Sits.calls a0_2 2 16 true _ A8.out).mono ?_); rintro e w' ⟨rfl, ⟨nd, rfl⟩⟩))
      go_meet
      case rel => exact ⟨_, (false), ze, H', ⟨zo1⟩, ⟨zc BK115⟩, ⟨zb⟩⟩
    ·replace c9 := Bool.eq_false_iff.mpr c9
     subst c9
     have H1 : (saronref06_Check.j0 k false a0_0 a0_1 a0_2 l0_3) = some r := by rw [if_neg (show ¬ (false = true) by decide)] at H; exact H
     clear H
     have H := H1
     clear H1
     have H' := zh H
     clear H
     have hcz14_0 : w3.cell? ⟨gb115, 0, none⟩ = some (.int .i64 a0_0) := vb BK115 0
     have hcz14_1 : w3.cell? ⟨gb115, 1, none⟩ = some (.int .i64 a0_1) := vb BK115 1
     have hcz14_2 : w3.cell? ⟨gb115, 2, none⟩ = some (.int .i64 a0_2) := vb BK115 2
     have hcz14_3 : w3.cell? ⟨gb115, 3, none⟩ = some (.slice A0_3 l0_3.length c0_3) := vb BK115 3
     have hfz14_0 := blk_frozen BK115.out 0
     have hfz14_1 := blk_frozen BK115.out 1
     have hfz14_2 := blk_frozen BK115.out 2
     have hfz14_3 := blk_frozen BK115.out 3
     go_wp2_with (first | ((with_reducible refine gate_callee (f := 45) rfl ?_); refine goesL_ (some 8) rfl rfl Tryd.func45 zk rfl #[.int .i64 a0_0, .int .i64 2, .int .i64 7] rfl zm ?_; (with_reducible refine (saronref00_Sits.calls a0_0 2 7 true _ A4.out).mono ?_); rintro e w' ⟨rfl, ⟨nd, rfl⟩⟩; refine ⟨_, rfl, ?_⟩) | (go_at_call 45; (with_reducible refine (saronref00_Sits.calls a0_1 1 3 true _ A6.out).mono ?_); rintro e w' ⟨rfl, ⟨nd, rfl⟩⟩) | (go_at_call 45; (with_reducible refine (saronref00_Sits.calls a0_2 2 16 false _ A8.out).mono ?_); rintro e w' ⟨rfl, ⟨nd, rfl⟩⟩))
     go_meet
     case rel => exact ⟨_, (false), ze, H', ⟨zo1⟩, ⟨zc BK115⟩, ⟨zb⟩⟩
   ·replace c7 := Bool.eq_false_iff.mpr c7
    subst c7
    have H1 : (saronref06_Check.j0 k false a0_0 a0_1 a0_2 l0_3) = some r := by rw [if_neg (show ¬ (false = true) by decide)] at H; exact H
    clear H
    have H := H1
    clear H1
    have H' := zh H
    clear H
    have hcz15_0 : w3.cell? ⟨gb115, 0, none⟩ = some (.int .i64 a0_0) := vb BK115 0
    have hcz15_1 : w3.cell? ⟨gb115, 1, none⟩ = some (.int .i64 a0_1) := vb BK115 1
    have hcz15_2 : w3.cell? ⟨gb115, 2, none⟩ = some (.int .i64 a0_2) := vb BK115 2
    have hcz15_3 : w3.cell? ⟨gb115, 3, none⟩ = some (.slice A0_3 l0_3.length c0_3) := vb BK115 3
    have hfz15_0 := blk_frozen BK115.out 0
    have hfz15_1 := blk_frozen BK115.out 1
    have hfz15_2 := blk_frozen BK115.out 2
    have hfz15_3 := blk_frozen BK115.out 3
    go_wp2_with (first | ((with_reducible refine gate_callee (f := 45) rfl ?_); refine goesL_ (some 8) rfl rfl Tryd.func45 zk rfl #[.int .i64 a0_0, .int .i64 2, .int .i64 7] rfl zm ?_; (with_reducible refine (saronref00_Sits.calls a0_0 2 7 true _ A4.out).mono ?_); rintro e w' ⟨rfl, ⟨nd, rfl⟩⟩; refine ⟨_, rfl, ?_⟩) | (go_at_call 45; (with_reducible refine (saronref00_Sits.calls a0_1 1 3 false _ A6.out).mono ?_); rintro e w' ⟨rfl, ⟨nd, rfl⟩⟩))
    go_meet
    case rel => exact ⟨_, (false), ze, H', ⟨zo1⟩, ⟨zc BK115⟩, ⟨zb⟩⟩
  ·replace c5 := Bool.eq_false_iff.mpr c5
   subst c5
   have H1 : (saronref06_Check.j0 k false a0_0 a0_1 a0_2 l0_3) = some r := by rw [if_neg (show ¬ (false = true) by decide)] at H; exact H
   clear H
   have H := H1
   clear H1
   have H' := zh H
   clear H
   have hcz16_0 : w3.cell? ⟨gb115, 0, none⟩ = some (.int .i64 a0_0) := vb BK115 0
   have hcz16_1 : w3.cell? ⟨gb115, 1, none⟩ = some (.int .i64 a0_1) := vb BK115 1
   have hcz16_2 : w3.cell? ⟨gb115, 2, none⟩ = some (.int .i64 a0_2) := vb BK115 2
   have hcz16_3 : w3.cell? ⟨gb115, 3, none⟩ = some (.slice A0_3 l0_3.length c0_3) := vb BK115 3
   have hfz16_0 := blk_frozen BK115.out 0
   have hfz16_1 := blk_frozen BK115.out 1
   have hfz16_2 := blk_frozen BK115.out 2
   have hfz16_3 := blk_frozen BK115.out 3
   go_wp2_with (first | ((with_reducible refine gate_callee (f := 45) rfl ?_); refine goesL_ (some 8) rfl rfl Tryd.func45 zk rfl #[.int .i64 a0_0, .int .i64 2, .int .i64 7] rfl zm ?_; (with_reducible refine (saronref00_Sits.calls a0_0 2 7 false _ A4.out).mono ?_); rintro e w' ⟨rfl, ⟨nd, rfl⟩⟩; refine ⟨_, rfl, ?_⟩))
   go_meet
   case rel => exact ⟨_, (false), ze, H', ⟨zo1⟩, ⟨zc BK115⟩, ⟨zb⟩⟩
 case rest =>
  clear HC2
  try clear c1
  try clear c2
  try clear p2
  try clear c4
  try clear c5
  try clear c7
  try clear c9
  try clear c10
  try clear c10b0
  try clear c10b1
  try clear hcz12_0
  try clear hcz12_1
  try clear hcz12_2
  try clear hcz12_3
  try clear hcz13_0
  try clear hcz13_1
  try clear hcz13_2
  try clear hcz13_3
  try clear hcz14_0
  try clear hcz14_1
  try clear hcz14_2
  try clear hcz14_3
  try clear hcz15_0
  try clear hcz15_1
  try clear hcz15_2
  try clear hcz15_3
  try clear hcz16_0
  try clear hcz16_1
  try clear hcz16_2
  try clear hcz16_3
  try clear hfz12_0
  try clear hfz12_1
  try clear hfz12_2
  try clear hfz12_3
  try clear hfz13_0
  try clear hfz13_1
  try clear hfz13_2
  try clear hfz13_3
  try clear hfz14_0
  try clear hfz14_1
  try clear hfz14_2
  try clear hfz14_3
  try clear hfz15_0
  try clear hfz15_1
  try clear hfz15_2
  try clear hfz15_3
  try clear hfz16_0
  try clear hfz16_1
  try clear hfz16_2
  try clear hfz16_3
  obtain ⟨kq, x3_1, rfl, HA, HJ1, BK115, HB⟩ := hcut
  cases kq with
  | zero => exact absurd HA.out (by simp [saronref06_Check.j0])
  | succ kj1 =>
   have H := HA.out
   clear HA
   simp only [saronref06_Check.j0] at H
   have H' := zh H
   clear H
   go_wp2
   go_loopg [3, 4] kj1 (fun kq v3 v4 w' => ∃ (x3_2 : Bool) (x4_2 : Int), v3 = .bool x3_2 ∧ v4 = .int .i64 x4_2 ∧ Aside0 (saronref06_Check.l0 kq x3_2 x4_2 a0_0 a0_1 a0_2 l0_3 = some r) ∧ Aside0 (kq ≤ kj1) ∧ Aside0 (w'.heap[gb115]? = some (.cells #[.int .i64 a0_0, .int .i64 a0_1, .int .i64 a0_2, (.slice A0_3 l0_3.length c0_3)] 24 (0, 0))) ∧ Aside0 (Below w.heap.size w w'))
   case atStart => exact ⟨(x3_1), (0), ze, ze, H', ⟨Nat.le_refl _⟩, ⟨zc BK115⟩, ⟨zb⟩⟩
   case round =>
    clear H'
    try clear c1
    try clear c2
    try clear p2
    try clear c4
    try clear c5
    try clear c7
    try clear c9
    try clear c10
    try clear c10b0
    try clear c10b1
    try clear hcz12_0
    try clear hcz12_1
    try clear hcz12_2
    try clear hcz12_3
    try clear hcz13_0
    try clear hcz13_1
    try clear hcz13_2
    try clear hcz13_3
    try clear hcz14_0
    try clear hcz14_1
    try clear hcz14_2
    try clear hcz14_3
    try clear hcz15_0
    try clear hcz15_1
    try clear hcz15_2
    try clear hcz15_3
    try clear hcz16_0
    try clear hcz16_1
    try clear hcz16_2
    try clear hcz16_3
    try clear hfz12_0
    try clear hfz12_1
    try clear hfz12_2
    try clear hfz12_3
    try clear hfz13_0
    try clear hfz13_1
    try clear hfz13_2
    try clear hfz13_3
    try clear hfz14_0
    try clear hfz14_1
    try clear hfz14_2
    try clear hfz14_3
    try clear hfz15_0
    try clear hfz15_1
    try clear hfz15_2
    try clear hfz15_3
    try clear hfz16_0
    try clear hfz16_1
    try clear hfz16_2
    try clear hfz16_3
    try clear p2
    obtain ⟨x3_2, x4_2, rfl, rfl, HA, HK2, BK115, HB⟩ := hrel
    cases gk with
    | zero => exact absurd HA.out (by simp [saronref06_Check.l0])
    | succ k2 =>
     have H := HA.out
     clear HA
     simp only [saronref06_Check.l0] at H
     have HC17 := zh H
     clear H
     go_upto_region 3 with (fail)
     go_cut [38] (fun v38 wc => ∃ (kq : Nat) (x38_16 : Bool), v38 = .bool x38_16 ∧ Aside0 (saronref06_Check.j2 kq x3_2 x4_2 x38_16 a0_0 a0_1 a0_2 l0_3 = some r) ∧ Aside0 (kq ≤ k2) ∧ Aside0 (wc.heap[gb115]? = some (.cells #[.int .i64 a0_0, .int .i64 a0_1, .int .i64 a0_2, (.slice A0_3 l0_3.length c0_3)] 24 (0, 0))) ∧ Aside0 (Below w.heap.size w wc))
     case first =>
      have H := HC17.out
      clear HC17
      by_cases c18 : x3_2 = true
      ·subst c18
       have H1 : (saronref06_Check.j2 k2 true x4_2 (decide (x4_2 < (l0_3.length : Int))) a0_0 a0_1 a0_2 l0_3) = some r := by rw [if_pos rfl] at H; exact H
       clear H
       have H := H1
       clear H1
       have H' := zh H
       clear H
       have hcz19_0 : wr.cell? ⟨gb115, 0, none⟩ = some (.int .i64 a0_0) := vb BK115 0
       have hcz19_1 : wr.cell? ⟨gb115, 1, none⟩ = some (.int .i64 a0_1) := vb BK115 1
       have hcz19_2 : wr.cell? ⟨gb115, 2, none⟩ = some (.int .i64 a0_2) := vb BK115 2
       have hcz19_3 : wr.cell? ⟨gb115, 3, none⟩ = some (.slice A0_3 l0_3.length c0_3) := vb BK115 3
       have hfz19_0 := blk_frozen BK115.out 0
       have hfz19_1 := blk_frozen BK115.out 1
       have hfz19_2 := blk_frozen BK115.out 2
       have hfz19_3 := blk_frozen BK115.out 3
       go_wp2
       go_meet
       case rel => exact ⟨_, (decide (x4_2 < (l0_3.length : Int))), ze, H', ⟨by have := HJ1.out; have := HK2.out; first | omega | exact Nat.le_refl _⟩, ⟨zc BK115⟩, ⟨zb⟩⟩
      ·replace c18 := Bool.eq_false_iff.mpr c18
       subst c18
       have H1 : (saronref06_Check.j2 k2 false x4_2 false a0_0 a0_1 a0_2 l0_3) = some r := by rw [if_neg (show ¬ (false = true) by decide)] at H; exact H
       clear H
       have H := H1
       clear H1
       have H' := zh H
       clear H
       go_wp2
       go_meet
       case rel => exact ⟨_, (false), ze, H', ⟨by have := HJ1.out; have := HK2.out; first | omega | exact Nat.le_refl _⟩, ⟨zc BK115⟩, ⟨zb⟩⟩
     case rest =>
      clear HC17
      try clear c1
      try clear c2
      try clear p2
      try clear c4
      try clear c5
      try clear c7
      try clear c9
      try clear c10
      try clear c10b0
      try clear c10b1
      try clear c18
      try clear hcz12_0
      try clear hcz12_1
      try clear hcz12_2
      try clear hcz12_3
      try clear hcz13_0
      try clear hcz13_1
      try clear hcz13_2
      try clear hcz13_3
      try clear hcz14_0
      try clear hcz14_1
      try clear hcz14_2
      try clear hcz14_3
      try clear hcz15_0
      try clear hcz15_1
      try clear hcz15_2
      try clear hcz15_3
      try clear hcz16_0
      try clear hcz16_1
      try clear hcz16_2
      try clear hcz16_3
      try clear hcz19_0
      try clear hcz19_1
      try clear hcz19_2
      try clear hcz19_3
      try clear hfz12_0
      try clear hfz12_1
      try clear hfz12_2
      try clear hfz12_3
      try clear hfz13_0
      try clear hfz13_1
      try clear hfz13_2
      try clear hfz13_3
      try clear hfz14_0
      try clear hfz14_1
      try clear hfz14_2
      try clear hfz14_3
      try clear hfz15_0
      try clear hfz15_1
      try clear hfz15_2
      try clear hfz15_3
      try clear hfz16_0
      try clear hfz16_1
      try clear hfz16_2
      try clear hfz16_3
      try clear hfz19_0
      try clear hfz19_1
      try clear hfz19_2
      try clear hfz19_3
      try clear p2
      obtain ⟨kq, x38_16, rfl, HA, HJ16, BK115, HB⟩ := hcut
      cases kq with
      | zero => exact absurd HA.out (by simp [saronref06_Check.j2])
      | succ kj16 =>
       have H := HA.out
       clear HA
       simp only [saronref06_Check.j2] at H
       by_cases c20 : x38_16 = true
       ·subst c20
        have H1 : (if 0 ≤ x4_2 then (if x4_2 < (l0_3.length : Int) then ((saronref00_Sits.f ((rd_T66 l0_3 x4_2).f0) 0 4).bind fun t122 => (if t122 = true then ((saronref00_Band.f ((rd_T66 l0_3 x4_2).f1) ((rd_T66 l0_3 x4_2).f2)).bind fun bt123 => ((saronref06_tones.f a0_0 a0_1 a0_2 l0_3).bind fun t125 => ((saronref00_Good.f bt123.1 bt123.2 0 (wrap64 (t125 - 1))).bind fun t126 => (if t126 = true then ((saronref00_Sits.f ((rd_T66 l0_3 x4_2).f3) (-6) 6).bind fun t127 => (saronref06_Check.l0 kj16 t127 (wrap64 (x4_2 + 1)) a0_0 a0_1 a0_2 l0_3)) else (saronref06_Check.l0 kj16 false (wrap64 (x4_2 + 1)) a0_0 a0_1 a0_2 l0_3))))) else (saronref06_Check.l0 kj16 false (wrap64 (x4_2 + 1)) a0_0 a0_1 a0_2 l0_3))) else (none)) else (none)) = some r := by rw [if_pos rfl] at H; exact H
        clear H
        have H := H1
        clear H1
        by_cases c21 : 0 ≤ x4_2
        ·rw [if_pos c21] at H
         have c21b0 : decide (0 ≤ x4_2) = true := decide_eq_true c21
         clear c21
         by_cases c22 : x4_2 < (l0_3.length : Int)
         ·rw [if_pos c22] at H
          have c22b0 : decide (x4_2 < (l0_3.length : Int)) = true := decide_eq_true c22
          clear c22
          replace H := Option.bind_eq_some_iff.mp H
          obtain ⟨t122, A230, H⟩ := H
          replace H : (if t122 = true then ((saronref00_Band.f ((rd_T66 l0_3 x4_2).f1) ((rd_T66 l0_3 x4_2).f2)).bind fun bt123 => ((saronref06_tones.f a0_0 a0_1 a0_2 l0_3).bind fun t125 => ((saronref00_Good.f bt123.1 bt123.2 0 (wrap64 (t125 - 1))).bind fun t126 => (if t126 = true then ((saronref00_Sits.f ((rd_T66 l0_3 x4_2).f3) (-6) 6).bind fun t127 => (saronref06_Check.l0 kj16 t127 (wrap64 (x4_2 + 1)) a0_0 a0_1 a0_2 l0_3)) else (saronref06_Check.l0 kj16 false (wrap64 (x4_2 + 1)) a0_0 a0_1 a0_2 l0_3))))) else (saronref06_Check.l0 kj16 false (wrap64 (x4_2 + 1)) a0_0 a0_1 a0_2 l0_3)) = some r := H
          have A23 := zh A230
          clear A230
          by_cases c24 : t122 = true
          ·subst c24
           have H1 : ((saronref00_Band.f ((rd_T66 l0_3 x4_2).f1) ((rd_T66 l0_3 x4_2).f2)).bind fun bt123 => ((saronref06_tones.f a0_0 a0_1 a0_2 l0_3).bind fun t125 => ((saronref00_Good.f bt123.1 bt123.2 0 (wrap64 (t125 - 1))).bind fun t126 => (if t126 = true then ((saronref00_Sits.f ((rd_T66 l0_3 x4_2).f3) (-6) 6).bind fun t127 => (saronref06_Check.l0 kj16 t127 (wrap64 (x4_2 + 1)) a0_0 a0_1 a0_2 l0_3)) else (saronref06_Check.l0 kj16 false (wrap64 (x4_2 + 1)) a0_0 a0_1 a0_2 l0_3))))) = some r := by rw [if_pos rfl] at H; exact H
           clear H
           have H := H1
           clear H1
           replace H := Option.bind_eq_some_iff.mp H
           obtain ⟨⟨t123, t124⟩, A250, H⟩ := H
           replace H : ((saronref06_tones.f a0_0 a0_1 a0_2 l0_3).bind fun t125 => ((saronref00_Good.f t123 t124 0 (wrap64 (t125 - 1))).bind fun t126 => (if t126 = true then ((saronref00_Sits.f ((rd_T66 l0_3 x4_2).f3) (-6) 6).bind fun t127 => (saronref06_Check.l0 kj16 t127 (wrap64 (x4_2 + 1)) a0_0 a0_1 a0_2 l0_3)) else (saronref06_Check.l0 kj16 false (wrap64 (x4_2 + 1)) a0_0 a0_1 a0_2 l0_3)))) = some r := H
           have A25 := zh A250
           clear A250
           replace H := Option.bind_eq_some_iff.mp H
           obtain ⟨t125, A260, H⟩ := H
           replace H : ((saronref00_Good.f t123 t124 0 (wrap64 (t125 - 1))).bind fun t126 => (if t126 = true then ((saronref00_Sits.f ((rd_T66 l0_3 x4_2).f3) (-6) 6).bind fun t127 => (saronref06_Check.l0 kj16 t127 (wrap64 (x4_2 + 1)) a0_0 a0_1 a0_2 l0_3)) else (saronref06_Check.l0 kj16 false (wrap64 (x4_2 + 1)) a0_0 a0_1 a0_2 l0_3))) = some r := H
           have A26 := zh A260
           clear A260
           replace H := Option.bind_eq_some_iff.mp H
           obtain ⟨t126, A270, H⟩ := H
           replace H : (if t126 = true then ((saronref00_Sits.f ((rd_T66 l0_3 x4_2).f3) (-6) 6).bind fun t127 => (saronref06_Check.l0 kj16 t127 (wrap64 (x4_2 + 1)) a0_0 a0_1 a0_2 l0_3)) else (saronref06_Check.l0 kj16 false (wrap64 (x4_2 + 1)) a0_0 a0_1 a0_2 l0_3)) = some r := H
           have A27 := zh A270
           clear A270
           by_cases c28 : t126 = true
           ·subst c28
            have H1 : ((saronref00_Sits.f ((rd_T66 l0_3 x4_2).f3) (-6) 6).bind fun t127 => (saronref06_Check.l0 kj16 t127 (wrap64 (x4_2 + 1)) a0_0 a0_1 a0_2 l0_3)) = some r := by rw [if_pos rfl] at H; exact H
            clear H
            have H := H1
            clear H1
            replace H := Option.bind_eq_some_iff.mp H
            obtain ⟨t127, A290, H⟩ := H
            replace H : (saronref06_Check.l0 kj16 t127 (wrap64 (x4_2 + 1)) a0_0 a0_1 a0_2 l0_3) = some r := H
            have A29 := zh A290
            clear A290
            have H' := zh H
            clear H
            have hcz30_0 : wc.cell? ⟨gb115, 0, none⟩ = some (.int .i64 a0_0) := vb BK115 0
            have hcz30_1 : wc.cell? ⟨gb115, 1, none⟩ = some (.int .i64 a0_1) := vb BK115 1
            have hcz30_2 : wc.cell? ⟨gb115, 2, none⟩ = some (.int .i64 a0_2) := vb BK115 2
            have hcz30_3 : wc.cell? ⟨gb115, 3, none⟩ = some (.slice A0_3 l0_3.length c0_3) := vb BK115 3
            have hfz30_0 := blk_frozen BK115.out 0
            have hfz30_1 := blk_frozen BK115.out 1
            have hfz30_2 := blk_frozen BK115.out 2
            have hfz30_3 := blk_frozen BK115.out 3
            have p120 : 0 ≤ (x4_2 : Int) := of_decide_eq_true zs
            have q120 : x4_2 < (l0_3.length : Int) := of_decide_eq_true zs
            obtain ⟨ad120, e120, hx120_0, hx120_1, hx120_2, hx120_3⟩ := at_T66 HR0_3.out x4_2 p120 q120
            cases e120
            replace hx120_0 := ve HB.out hx120_0
            replace hx120_1 := ve HB.out hx120_1
            replace hx120_2 := ve HB.out hx120_2
            replace hx120_3 := ve HB.out hx120_3
            replace p120 := eq_true p120
            replace q120 := eq_true q120
            try go_wp2_with (first | ((with_reducible refine gate_dst (N := 5) rfl ?_); (try (refine gate_guard (by rfl) ?_; dsimp only)); refine box_event ?hg (N := 5) ?hd (cs := #[.int .i64 0, .int .i64 0, .int .i64 0, .int .i64 0]) (t := 66) ?hr ?_; (case hd => rfl); (case hg => rfl); (case hr => first | (go_simp; done) | (go_simp; rfl)); intro gb121 hg w31 hbox hb; have n0_ := zh (blk_below (g := gb115) (o := .cells #[.int .i64 a0_0, .int .i64 a0_1, .int .i64 a0_2, .slice (some ad120) l0_3.length c0_3] 24 (0, 0)) (zc BK115) hb); have n1_ := zh (below_step zb hb); have n2_ := zh (hbox); have n3_ := zh ((by rw [hg]; exact (below_size zb) : w.heap.size ≤ gb121)); have n4_ := zh ((by rw [hg]; exact (below_size zb) : w.heap.size ≤ gb121)); have n5_ := zh ((by rw [hg]; exact Nat.ne_of_lt (blk_lt (g := gb115) (o := .cells #[.int .i64 a0_0, .int .i64 a0_1, .int .i64 a0_2, .slice (some ad120) l0_3.length c0_3] 24 (0, 0)) (zc BK115)) : gb115 ≠ gb121)); have n6_ := zh ((by rw [hg]; exact Nat.ne_of_gt (blk_lt (g := gb115) (o := .cells #[.int .i64 a0_0, .int .i64 a0_1, .int .i64 a0_2, .slice (some ad120) l0_3.length c0_3] 24 (0, 0)) (zc BK115)) : gb121 ≠ gb115)); clear BK115; clear HB; have BK115 := n0_; have HB := n1_; have BK121 := n2_; have GW121 := n3_; have GE121 := n4_; have NB115_121 := n5_; have NB121_115 := n6_; clear n0_ n1_ n2_ n3_ n4_ n5_ n6_; clear hb hbox hg; have hnb32 := NB121_115.out; have hnc32 := NB115_121.out; have hcz33_0 : w31.cell? ⟨gb121, 0, none⟩ = some (.int .i64 0) := vb BK121 0; have hcz33_1 : w31.cell? ⟨gb121, 1, none⟩ = some (.int .i64 0) := vb BK121 1; have hcz33_2 : w31.cell? ⟨gb121, 2, none⟩ = some (.int .i64 0) := vb BK121 2; have hcz33_3 : w31.cell? ⟨gb121, 3, none⟩ = some (.int .i64 0) := vb BK121 3; have hfz33_0 := blk_frozen BK121.out 0; have hfz33_1 := blk_frozen BK121.out 1; have hfz33_2 := blk_frozen BK121.out 2; have hfz33_3 := blk_frozen BK121.out 3))
            have n0_ : Aside0 (((((w31.setCell ⟨gb121, 0, none⟩ (.int .i64 ((rd_T66 l0_3 x4_2).f0))).setCell ⟨gb121, 1, none⟩ (.int .i64 ((rd_T66 l0_3 x4_2).f1))).setCell ⟨gb121, 2, none⟩ (.int .i64 ((rd_T66 l0_3 x4_2).f2))).setCell ⟨gb121, 3, none⟩ (.int .i64 ((rd_T66 l0_3 x4_2).f3))).heap[gb115]? = some (.cells #[.int .i64 a0_0, .int .i64 a0_1, .int .i64 a0_2, .slice (some ad120) l0_3.length c0_3] 24 (0, 0))) := ⟨by (with_reducible repeat (first | refine blk_drewN ?_ _ | refine blk_drew ?_ | refine blk_alloc ?_ _)); refine blk_far ?_ NB115_121.out _; (with_reducible repeat (first | refine blk_drewN ?_ _ | refine blk_drew ?_ | refine blk_alloc ?_ _)); refine blk_far ?_ NB115_121.out _; (with_reducible repeat (first | refine blk_drewN ?_ _ | refine blk_drew ?_ | refine blk_alloc ?_ _)); refine blk_far ?_ NB115_121.out _; (with_reducible repeat (first | refine blk_drewN ?_ _ | refine blk_drew ?_ | refine blk_alloc ?_ _)); refine blk_far ?_ NB115_121.out _; (with_reducible repeat (first | refine blk_drewN ?_ _ | refine blk_drew ?_ | refine blk_alloc ?_ _)); exact BK115.out⟩
            have n1_ : Aside0 (((((w31.setCell ⟨gb121, 0, none⟩ (.int .i64 ((rd_T66 l0_3 x4_2).f0))).setCell ⟨gb121, 1, none⟩ (.int .i64 ((rd_T66 l0_3 x4_2).f1))).setCell ⟨gb121, 2, none⟩ (.int .i64 ((rd_T66 l0_3 x4_2).f2))).setCell ⟨gb121, 3, none⟩ (.int .i64 ((rd_T66 l0_3 x4_2).f3))).heap[gb121]? = some (.cells #[.int .i64 ((rd_T66 l0_3 x4_2).f0), .int .i64 ((rd_T66 l0_3 x4_2).f1), .int .i64 ((rd_T66 l0_3 x4_2).f2), .int .i64 ((rd_T66 l0_3 x4_2).f3)] 66 (0, 0))) := ⟨by (with_reducible repeat (first | refine blk_drewN ?_ _ | refine blk_drew ?_ | refine blk_alloc ?_ _)); refine blk_put (cs := #[.int .i64 ((rd_T66 l0_3 x4_2).f0), .int .i64 ((rd_T66 l0_3 x4_2).f1), .int .i64 ((rd_T66 l0_3 x4_2).f2), .int .i64 0]) ?_ 3 _ rfl; (with_reducible repeat (first | refine blk_drewN ?_ _ | refine blk_drew ?_ | refine blk_alloc ?_ _)); refine blk_put (cs := #[.int .i64 ((rd_T66 l0_3 x4_2).f0), .int .i64 ((rd_T66 l0_3 x4_2).f1), .int .i64 0, .int .i64 0]) ?_ 2 _ rfl; (with_reducible repeat (first | refine blk_drewN ?_ _ | refine blk_drew ?_ | refine blk_alloc ?_ _)); refine blk_put (cs := #[.int .i64 ((rd_T66 l0_3 x4_2).f0), .int .i64 0, .int .i64 0, .int .i64 0]) ?_ 1 _ rfl; (with_reducible repeat (first | refine blk_drewN ?_ _ | refine blk_drew ?_ | refine blk_alloc ?_ _)); refine blk_put (cs := #[.int .i64 0, .int .i64 0, .int .i64 0, .int .i64 0]) ?_ 0 _ rfl; (with_reducible repeat (first | refine blk_drewN ?_ _ | refine blk_drew ?_ | refine blk_alloc ?_ _)); exact BK121.out⟩
            have n2_ : Aside0 (Below w.heap.size w ((((w31.setCell ⟨gb121, 0, none⟩ (.int .i64 ((rd_T66 l0_3 x4_2).f0))).setCell ⟨gb121, 1, none⟩ (.int .i64 ((rd_T66 l0_3 x4_2).f1))).setCell ⟨gb121, 2, none⟩ (.int .i64 ((rd_T66 l0_3 x4_2).f2))).setCell ⟨gb121, 3, none⟩ (.int .i64 ((rd_T66 l0_3 x4_2).f3)))) := ⟨zb⟩
            (try clear BK115)
            (try clear BK121)
            (try clear HB)
            generalize ((((w31.setCell ⟨gb121, 0, none⟩ (.int .i64 ((rd_T66 l0_3 x4_2).f0))).setCell ⟨gb121, 1, none⟩ (.int .i64 ((rd_T66 l0_3 x4_2).f1))).setCell ⟨gb121, 2, none⟩ (.int .i64 ((rd_T66 l0_3 x4_2).f2))).setCell ⟨gb121, 3, none⟩ (.int .i64 ((rd_T66 l0_3 x4_2).f3))) = w34 at n0_ n1_ n2_ ⊢
            have BK115 := n0_
            have BK121 := n1_
            have HB := n2_
            clear n0_ n1_ n2_
            replace BK115 := zh (blk_drew BK115.out)
            replace BK121 := zh (blk_drew BK121.out)
            replace HB := zh (below_drew1 HB.out)
            refine start_ (n := 20) (S := fun w' => w'.cell? ⟨gb121, 0, none⟩ = some (.int .i64 ((rd_T66 l0_3 x4_2).f0)) ∧ w'.cell? ⟨gb121, 1, none⟩ = some (.int .i64 ((rd_T66 l0_3 x4_2).f1)) ∧ w'.cell? ⟨gb121, 2, none⟩ = some (.int .i64 ((rd_T66 l0_3 x4_2).f2)) ∧ w'.cell? ⟨gb121, 3, none⟩ = some (.int .i64 ((rd_T66 l0_3 x4_2).f3)) ∧ w'.cell? ⟨gb115, 0, none⟩ = some (.int .i64 a0_0) ∧ w'.cell? ⟨gb115, 1, none⟩ = some (.int .i64 a0_1) ∧ w'.cell? ⟨gb115, 2, none⟩ = some (.int .i64 a0_2) ∧ w'.cell? ⟨gb115, 3, none⟩ = some (.slice (some ad120) l0_3.length c0_3)) (ds := []) (Array.replicate 20 false) zk rfl rfl ⟨vb BK121 0, vb BK121 1, vb BK121 2, vb BK121 3, vb BK115 0, vb BK115 1, vb BK115 2, vb BK115 3⟩ (fun hHeld => ?_); refine with_tabW saronref06_Check.tab6 saronref06_Check.bits6 (fun HT_ HW_ => ?_)
            generalize w34.drew = w35 at BK115 BK121 HB hHeld ⊢
            refine zu 0 ?_
            refine zt 1 ?_
            refine zo 2 (fun K hK => ?_)
            refine goes_ Tryd.func45 zk rfl #[.int .i64 ((rd_T66 l0_3 x4_2).f0), .int .i64 0, .int .i64 4] (by rfl) rfl rfl zm ?_
            with_reducible refine (saronref00_Sits.calls ((rd_T66 l0_3 x4_2).f0) 0 4 true _ A23.out).mono ?_
            rintro e w' ⟨rfl, ⟨nd, rfl⟩⟩
            refine ⟨_, rfl, ?_⟩
            refine hK.out _ _ ⟨vb BK121 0, vb BK121 1, vb BK121 2, vb BK121 3, vb BK115 0, vb BK115 1, vb BK115 2, vb BK115 3⟩ (fun hHeld => ?_)
            clear hK K
            refine zr 48 _ ?_
            refine zu 3 ?_
            refine zu 4 ?_
            refine zu 6 ?_
            refine zt 5 ?_
            refine zt 7 ?_
            refine zt 9 ?_
            refine zo 8 (fun K hK => ?_)
            refine goes_ Tryd.func61 zk rfl #[.int .i64 ((rd_T66 l0_3 x4_2).f1), .int .i64 ((rd_T66 l0_3 x4_2).f2)] (by rfl) rfl rfl zm ?_
            with_reducible refine (saronref00_Band.calls ((rd_T66 l0_3 x4_2).f1) ((rd_T66 l0_3 x4_2).f2) t123 t124 _ A25.out).mono ?_
            rintro e w36 ⟨rfl, hb⟩
            refine ⟨_, rfl, ?_⟩
            replace BK115 := zh (blk_below (g := gb115) (o := .cells #[.int .i64 a0_0, .int .i64 a0_1, .int .i64 a0_2, .slice (some ad120) l0_3.length c0_3] 24 (0, 0)) (zc BK115) hb)
            replace BK121 := zh (blk_below (g := gb121) (o := .cells #[.int .i64 ((rd_T66 l0_3 x4_2).f0), .int .i64 ((rd_T66 l0_3 x4_2).f1), .int .i64 ((rd_T66 l0_3 x4_2).f2), .int .i64 ((rd_T66 l0_3 x4_2).f3)] 66 (0, 0)) (zc BK121) hb)
            replace HB := zh (below_step zb hb)
            (try clear hb)
            (try clear hb2)
            (try clear hk)
            (try clear hi)
            refine hK.out _ _ ⟨vb BK121 0, vb BK121 1, vb BK121 2, vb BK121 3, vb BK115 0, vb BK115 1, vb BK115 2, vb BK115 3⟩ (fun hHeld => ?_)
            clear hK K
            refine zr 54 _ ?_
            refine zo 10 (fun K hK => ?_)
            refine goes_ Tryd.func58 zk rfl #[.agg #[.int .i64 a0_0, .int .i64 a0_1, .int .i64 a0_2, .slice (some ad120) l0_3.length c0_3]] (by rfl) rfl rfl zm ?_
            with_reducible refine (saronref06_tones.calls a0_0 a0_1 a0_2 _ _ l0_3 t125 _ ?side1 ?side2 A26.out).mono ?_
            (case side1 => repeat (first | exact (Kd.C_below HR0_3.out HB.out) | (with_reducible refine Kd.C_alloc ?_ _) | (with_reducible refine Kd.C_drewN ?_ _) | (with_reducible refine Kd.C_drew ?_)))
            (case side2 => exact HC0_3.out)
            rintro e w37 ⟨rfl, hb⟩
            refine ⟨_, rfl, ?_⟩
            replace BK115 := zh (blk_below (g := gb115) (o := .cells #[.int .i64 a0_0, .int .i64 a0_1, .int .i64 a0_2, .slice (some ad120) l0_3.length c0_3] 24 (0, 0)) (zc BK115) hb)
            replace BK121 := zh (blk_below (g := gb121) (o := .cells #[.int .i64 ((rd_T66 l0_3 x4_2).f0), .int .i64 ((rd_T66 l0_3 x4_2).f1), .int .i64 ((rd_T66 l0_3 x4_2).f2), .int .i64 ((rd_T66 l0_3 x4_2).f3)] 66 (0, 0)) (zc BK121) hb)
            replace HB := zh (below_step zb hb)
            (try clear hb)
            (try clear hb2)
            (try clear hk)
            (try clear hi)
            refine hK.out _ _ ⟨vb BK121 0, vb BK121 1, vb BK121 2, vb BK121 3, vb BK115 0, vb BK115 1, vb BK115 2, vb BK115 3⟩ (fun hHeld => ?_)
            clear hK K
            refine zr 56 _ ?_
            refine zu 11 ?_
            refine zo 12 (fun K hK => ?_)
            refine goes_ Tryd.func60 zk rfl #[.agg #[.int .i64 t123, .int .i64 t124], .int .i64 0, .int .i64 (wrap64 (t125 - 1))] (by rfl) rfl rfl zm ?_
            with_reducible refine (saronref00_Good.calls t123 t124 0 (wrap64 (t125 - 1)) true _ A27.out).mono ?_
            rintro e w38 ⟨rfl, hb⟩
            refine ⟨_, rfl, ?_⟩
            replace BK115 := zh (blk_below (g := gb115) (o := .cells #[.int .i64 a0_0, .int .i64 a0_1, .int .i64 a0_2, .slice (some ad120) l0_3.length c0_3] 24 (0, 0)) (zc BK115) hb)
            replace BK121 := zh (blk_below (g := gb121) (o := .cells #[.int .i64 ((rd_T66 l0_3 x4_2).f0), .int .i64 ((rd_T66 l0_3 x4_2).f1), .int .i64 ((rd_T66 l0_3 x4_2).f2), .int .i64 ((rd_T66 l0_3 x4_2).f3)] 66 (0, 0)) (zc BK121) hb)
            replace HB := zh (below_step zb hb)
            (try clear hb)
            (try clear hb2)
            (try clear hk)
            (try clear hi)
            refine hK.out _ _ ⟨vb BK121 0, vb BK121 1, vb BK121 2, vb BK121 3, vb BK115 0, vb BK115 1, vb BK115 2, vb BK115 3⟩ (fun hHeld => ?_)
            clear hK K
            refine zr 58 _ ?_
            refine zu 13 ?_
            refine zu 14 ?_
            refine zu 15 ?_
            refine zt 16 ?_
            refine zo 17 (fun K hK => ?_)
            refine goes_ Tryd.func45 zk rfl #[.int .i64 ((rd_T66 l0_3 x4_2).f3), .int .i64 (-6), .int .i64 6] (by rfl) rfl rfl zm ?_
            with_reducible refine (saronref00_Sits.calls ((rd_T66 l0_3 x4_2).f3) (-6) 6 t127 _ A29.out).mono ?_
            rintro e w' ⟨rfl, ⟨nd, rfl⟩⟩
            refine ⟨_, rfl, ?_⟩
            refine hK.out _ _ ⟨vb BK121 0, vb BK121 1, vb BK121 2, vb BK121 3, vb BK115 0, vb BK115 1, vb BK115 2, vb BK115 3⟩ (fun hHeld => ?_)
            clear hK K
            refine zr 63 _ ?_
            refine zu 18 ?_
            refine zu 19 ?_
            refine zd ?_
            try go_wp2
            go_roundg kj16
            case measure => have := HJ1.out; have := HK2.out; have := HJ16.out; omega
            case rel => exact ⟨(t127), (wrap64 (x4_2 + 1)), ze, ze, H', ⟨by have := HJ1.out; have := HK2.out; have := HJ16.out; omega⟩, ⟨zc BK115⟩, ⟨zb⟩⟩
           ·replace c28 := Bool.eq_false_iff.mpr c28
            subst c28
            have H1 : (saronref06_Check.l0 kj16 false (wrap64 (x4_2 + 1)) a0_0 a0_1 a0_2 l0_3) = some r := by rw [if_neg (show ¬ (false = true) by decide)] at H; exact H
            clear H
            have H := H1
            clear H1
            have H' := zh H
            clear H
            have hcz39_0 : wc.cell? ⟨gb115, 0, none⟩ = some (.int .i64 a0_0) := vb BK115 0
            have hcz39_1 : wc.cell? ⟨gb115, 1, none⟩ = some (.int .i64 a0_1) := vb BK115 1
            have hcz39_2 : wc.cell? ⟨gb115, 2, none⟩ = some (.int .i64 a0_2) := vb BK115 2
            have hcz39_3 : wc.cell? ⟨gb115, 3, none⟩ = some (.slice A0_3 l0_3.length c0_3) := vb BK115 3
            have hfz39_0 := blk_frozen BK115.out 0
            have hfz39_1 := blk_frozen BK115.out 1
            have hfz39_2 := blk_frozen BK115.out 2
            have hfz39_3 := blk_frozen BK115.out 3
            have p120 : 0 ≤ (x4_2 : Int) := of_decide_eq_true zs
            have q120 : x4_2 < (l0_3.length : Int) := of_decide_eq_true zs
            obtain ⟨ad120, e120, hx120_0, hx120_1, hx120_2, hx120_3⟩ := at_T66 HR0_3.out x4_2 p120 q120
            cases e120
            replace hx120_0 := ve HB.out hx120_0
            replace hx120_1 := ve HB.out hx120_1
            replace hx120_2 := ve HB.out hx120_2
            replace hx120_3 := ve HB.out hx120_3
            replace p120 := eq_true p120
            replace q120 := eq_true q120
            try go_wp2_with (first | ((with_reducible refine gate_dst (N := 5) rfl ?_); (try (refine gate_guard (by rfl) ?_; dsimp only)); refine box_event ?hg (N := 5) ?hd (cs := #[.int .i64 0, .int .i64 0, .int .i64 0, .int .i64 0]) (t := 66) ?hr ?_; (case hd => rfl); (case hg => rfl); (case hr => first | (go_simp; done) | (go_simp; rfl)); intro gb121 hg w40 hbox hb; have n0_ := zh (blk_below (g := gb115) (o := .cells #[.int .i64 a0_0, .int .i64 a0_1, .int .i64 a0_2, .slice (some ad120) l0_3.length c0_3] 24 (0, 0)) (zc BK115) hb); have n1_ := zh (below_step zb hb); have n2_ := zh (hbox); have n3_ := zh ((by rw [hg]; exact (below_size zb) : w.heap.size ≤ gb121)); have n4_ := zh ((by rw [hg]; exact (below_size zb) : w.heap.size ≤ gb121)); have n5_ := zh ((by rw [hg]; exact Nat.ne_of_lt (blk_lt (g := gb115) (o := .cells #[.int .i64 a0_0, .int .i64 a0_1, .int .i64 a0_2, .slice (some ad120) l0_3.length c0_3] 24 (0, 0)) (zc BK115)) : gb115 ≠ gb121)); have n6_ := zh ((by rw [hg]; exact Nat.ne_of_gt (blk_lt (g := gb115) (o := .cells #[.int .i64 a0_0, .int .i64 a0_1, .int .i64 a0_2, .slice (some ad120) l0_3.length c0_3] 24 (0, 0)) (zc BK115)) : gb121 ≠ gb115)); clear BK115; clear HB; have BK115 := n0_; have HB := n1_; have BK121 := n2_; have GW121 := n3_; have GE121 := n4_; have NB115_121 := n5_; have NB121_115 := n6_; clear n0_ n1_ n2_ n3_ n4_ n5_ n6_; clear hb hbox hg; have hnb41 := NB121_115.out; have hnc41 := NB115_121.out; have hcz42_0 : w40.cell? ⟨gb121, 0, none⟩ = some (.int .i64 0) := vb BK121 0; have hcz42_1 : w40.cell? ⟨gb121, 1, none⟩ = some (.int .i64 0) := vb BK121 1; have hcz42_2 : w40.cell? ⟨gb121, 2, none⟩ = some (.int .i64 0) := vb BK121 2; have hcz42_3 : w40.cell? ⟨gb121, 3, none⟩ = some (.int .i64 0) := vb BK121 3; have hfz42_0 := blk_frozen BK121.out 0; have hfz42_1 := blk_frozen BK121.out 1; have hfz42_2 := blk_frozen BK121.out 2; have hfz42_3 := blk_frozen BK121.out 3))
            have n0_ : Aside0 (((((w40.setCell ⟨gb121, 0, none⟩ (.int .i64 ((rd_T66 l0_3 x4_2).f0))).setCell ⟨gb121, 1, none⟩ (.int .i64 ((rd_T66 l0_3 x4_2).f1))).setCell ⟨gb121, 2, none⟩ (.int .i64 ((rd_T66 l0_3 x4_2).f2))).setCell ⟨gb121, 3, none⟩ (.int .i64 ((rd_T66 l0_3 x4_2).f3))).heap[gb115]? = some (.cells #[.int .i64 a0_0, .int .i64 a0_1, .int .i64 a0_2, .slice (some ad120) l0_3.length c0_3] 24 (0, 0))) := ⟨by (with_reducible repeat (first | refine blk_drewN ?_ _ | refine blk_drew ?_ | refine blk_alloc ?_ _)); refine blk_far ?_ NB115_121.out _; (with_reducible repeat (first | refine blk_drewN ?_ _ | refine blk_drew ?_ | refine blk_alloc ?_ _)); refine blk_far ?_ NB115_121.out _; (with_reducible repeat (first | refine blk_drewN ?_ _ | refine blk_drew ?_ | refine blk_alloc ?_ _)); refine blk_far ?_ NB115_121.out _; (with_reducible repeat (first | refine blk_drewN ?_ _ | refine blk_drew ?_ | refine blk_alloc ?_ _)); refine blk_far ?_ NB115_121.out _; (with_reducible repeat (first | refine blk_drewN ?_ _ | refine blk_drew ?_ | refine blk_alloc ?_ _)); exact BK115.out⟩
            have n1_ : Aside0 (((((w40.setCell ⟨gb121, 0, none⟩ (.int .i64 ((rd_T66 l0_3 x4_2).f0))).setCell ⟨gb121, 1, none⟩ (.int .i64 ((rd_T66 l0_3 x4_2).f1))).setCell ⟨gb121, 2, none⟩ (.int .i64 ((rd_T66 l0_3 x4_2).f2))).setCell ⟨gb121, 3, none⟩ (.int .i64 ((rd_T66 l0_3 x4_2).f3))).heap[gb121]? = some (.cells #[.int .i64 ((rd_T66 l0_3 x4_2).f0), .int .i64 ((rd_T66 l0_3 x4_2).f1), .int .i64 ((rd_T66 l0_3 x4_2).f2), .int .i64 ((rd_T66 l0_3 x4_2).f3)] 66 (0, 0))) := ⟨by (with_reducible repeat (first | refine blk_drewN ?_ _ | refine blk_drew ?_ | refine blk_alloc ?_ _)); refine blk_put (cs := #[.int .i64 ((rd_T66 l0_3 x4_2).f0), .int .i64 ((rd_T66 l0_3 x4_2).f1), .int .i64 ((rd_T66 l0_3 x4_2).f2), .int .i64 0]) ?_ 3 _ rfl; (with_reducible repeat (first | refine blk_drewN ?_ _ | refine blk_drew ?_ | refine blk_alloc ?_ _)); refine blk_put (cs := #[.int .i64 ((rd_T66 l0_3 x4_2).f0), .int .i64 ((rd_T66 l0_3 x4_2).f1), .int .i64 0, .int .i64 0]) ?_ 2 _ rfl; (with_reducible repeat (first | refine blk_drewN ?_ _ | refine blk_drew ?_ | refine blk_alloc ?_ _)); refine blk_put (cs := #[.int .i64 ((rd_T66 l0_3 x4_2).f0), .int .i64 0, .int .i64 0, .int .i64 0]) ?_ 1 _ rfl; (with_reducible repeat (first | refine blk_drewN ?_ _ | refine blk_drew ?_ | refine blk_alloc ?_ _)); refine blk_put (cs := #[.int .i64 0, .int .i64 0, .int .i64 0, .int .i64 0]) ?_ 0 _ rfl; (with_reducible repeat (first | refine blk_drewN ?_ _ | refine blk_drew ?_ | refine blk_alloc ?_ _)); exact BK121.out⟩
            have n2_ : Aside0 (Below w.heap.size w ((((w40.setCell ⟨gb121, 0, none⟩ (.int .i64 ((rd_T66 l0_3 x4_2).f0))).setCell ⟨gb121, 1, none⟩ (.int .i64 ((rd_T66 l0_3 x4_2).f1))).setCell ⟨gb121, 2, none⟩ (.int .i64 ((rd_T66 l0_3 x4_2).f2))).setCell ⟨gb121, 3, none⟩ (.int .i64 ((rd_T66 l0_3 x4_2).f3)))) := ⟨zb⟩
            (try clear BK115)
            (try clear BK121)
            (try clear HB)
            generalize ((((w40.setCell ⟨gb121, 0, none⟩ (.int .i64 ((rd_T66 l0_3 x4_2).f0))).setCell ⟨gb121, 1, none⟩ (.int .i64 ((rd_T66 l0_3 x4_2).f1))).setCell ⟨gb121, 2, none⟩ (.int .i64 ((rd_T66 l0_3 x4_2).f2))).setCell ⟨gb121, 3, none⟩ (.int .i64 ((rd_T66 l0_3 x4_2).f3))) = w43 at n0_ n1_ n2_ ⊢
            have BK115 := n0_
            have BK121 := n1_
            have HB := n2_
            clear n0_ n1_ n2_
            replace BK115 := zh (blk_drew BK115.out)
            replace BK121 := zh (blk_drew BK121.out)
            replace HB := zh (below_drew1 HB.out)
            refine start_ (n := 20) (S := fun w' => w'.cell? ⟨gb121, 0, none⟩ = some (.int .i64 ((rd_T66 l0_3 x4_2).f0)) ∧ w'.cell? ⟨gb121, 1, none⟩ = some (.int .i64 ((rd_T66 l0_3 x4_2).f1)) ∧ w'.cell? ⟨gb121, 2, none⟩ = some (.int .i64 ((rd_T66 l0_3 x4_2).f2)) ∧ w'.cell? ⟨gb121, 3, none⟩ = some (.int .i64 ((rd_T66 l0_3 x4_2).f3)) ∧ w'.cell? ⟨gb115, 0, none⟩ = some (.int .i64 a0_0) ∧ w'.cell? ⟨gb115, 1, none⟩ = some (.int .i64 a0_1) ∧ w'.cell? ⟨gb115, 2, none⟩ = some (.int .i64 a0_2) ∧ w'.cell? ⟨gb115, 3, none⟩ = some (.slice (some ad120) l0_3.length c0_3)) (ds := []) (Array.replicate 20 false) zk rfl rfl ⟨vb BK121 0, vb BK121 1, vb BK121 2, vb BK121 3, vb BK115 0, vb BK115 1, vb BK115 2, vb BK115 3⟩ (fun hHeld => ?_); refine with_tabW saronref06_Check.tab6 saronref06_Check.bits6 (fun HT_ HW_ => ?_)
            generalize w43.drew = w44 at BK115 BK121 HB hHeld ⊢
            refine zu 0 ?_
            refine zt 1 ?_
            refine zo 2 (fun K hK => ?_)
            refine goes_ Tryd.func45 zk rfl #[.int .i64 ((rd_T66 l0_3 x4_2).f0), .int .i64 0, .int .i64 4] (by rfl) rfl rfl zm ?_
            with_reducible refine (saronref00_Sits.calls ((rd_T66 l0_3 x4_2).f0) 0 4 true _ A23.out).mono ?_
            rintro e w' ⟨rfl, ⟨nd, rfl⟩⟩
            refine ⟨_, rfl, ?_⟩
            refine hK.out _ _ ⟨vb BK121 0, vb BK121 1, vb BK121 2, vb BK121 3, vb BK115 0, vb BK115 1, vb BK115 2, vb BK115 3⟩ (fun hHeld => ?_)
            clear hK K
            refine zr 48 _ ?_
            refine zu 3 ?_
            refine zu 4 ?_
            refine zu 6 ?_
            refine zt 5 ?_
            refine zt 7 ?_
            refine zt 9 ?_
            refine zo 8 (fun K hK => ?_)
            refine goes_ Tryd.func61 zk rfl #[.int .i64 ((rd_T66 l0_3 x4_2).f1), .int .i64 ((rd_T66 l0_3 x4_2).f2)] (by rfl) rfl rfl zm ?_
            with_reducible refine (saronref00_Band.calls ((rd_T66 l0_3 x4_2).f1) ((rd_T66 l0_3 x4_2).f2) t123 t124 _ A25.out).mono ?_
            rintro e w45 ⟨rfl, hb⟩
            refine ⟨_, rfl, ?_⟩
            replace BK115 := zh (blk_below (g := gb115) (o := .cells #[.int .i64 a0_0, .int .i64 a0_1, .int .i64 a0_2, .slice (some ad120) l0_3.length c0_3] 24 (0, 0)) (zc BK115) hb)
            replace BK121 := zh (blk_below (g := gb121) (o := .cells #[.int .i64 ((rd_T66 l0_3 x4_2).f0), .int .i64 ((rd_T66 l0_3 x4_2).f1), .int .i64 ((rd_T66 l0_3 x4_2).f2), .int .i64 ((rd_T66 l0_3 x4_2).f3)] 66 (0, 0)) (zc BK121) hb)
            replace HB := zh (below_step zb hb)
            (try clear hb)
            (try clear hb2)
            (try clear hk)
            (try clear hi)
            refine hK.out _ _ ⟨vb BK121 0, vb BK121 1, vb BK121 2, vb BK121 3, vb BK115 0, vb BK115 1, vb BK115 2, vb BK115 3⟩ (fun hHeld => ?_)
            clear hK K
            refine zr 54 _ ?_
            refine zo 10 (fun K hK => ?_)
            refine goes_ Tryd.func58 zk rfl #[.agg #[.int .i64 a0_0, .int .i64 a0_1, .int .i64 a0_2, .slice (some ad120) l0_3.length c0_3]] (by rfl) rfl rfl zm ?_
            with_reducible refine (saronref06_tones.calls a0_0 a0_1 a0_2 _ _ l0_3 t125 _ ?side1 ?side2 A26.out).mono ?_
            (case side1 => repeat (first | exact (Kd.C_below HR0_3.out HB.out) | (with_reducible refine Kd.C_alloc ?_ _) | (with_reducible refine Kd.C_drewN ?_ _) | (with_reducible refine Kd.C_drew ?_)))
            (case side2 => exact HC0_3.out)
            rintro e w46 ⟨rfl, hb⟩
            refine ⟨_, rfl, ?_⟩
            replace BK115 := zh (blk_below (g := gb115) (o := .cells #[.int .i64 a0_0, .int .i64 a0_1, .int .i64 a0_2, .slice (some ad120) l0_3.length c0_3] 24 (0, 0)) (zc BK115) hb)
            replace BK121 := zh (blk_below (g := gb121) (o := .cells #[.int .i64 ((rd_T66 l0_3 x4_2).f0), .int .i64 ((rd_T66 l0_3 x4_2).f1), .int .i64 ((rd_T66 l0_3 x4_2).f2), .int .i64 ((rd_T66 l0_3 x4_2).f3)] 66 (0, 0)) (zc BK121) hb)
            replace HB := zh (below_step zb hb)
            (try clear hb)
            (try clear hb2)
            (try clear hk)
            (try clear hi)
            refine hK.out _ _ ⟨vb BK121 0, vb BK121 1, vb BK121 2, vb BK121 3, vb BK115 0, vb BK115 1, vb BK115 2, vb BK115 3⟩ (fun hHeld => ?_)
            clear hK K
            refine zr 56 _ ?_
            refine zu 11 ?_
            refine zo 12 (fun K hK => ?_)
            refine goes_ Tryd.func60 zk rfl #[.agg #[.int .i64 t123, .int .i64 t124], .int .i64 0, .int .i64 (wrap64 (t125 - 1))] (by rfl) rfl rfl zm ?_
            with_reducible refine (saronref00_Good.calls t123 t124 0 (wrap64 (t125 - 1)) false _ A27.out).mono ?_
            rintro e w47 ⟨rfl, hb⟩
            refine ⟨_, rfl, ?_⟩
            replace BK115 := zh (blk_below (g := gb115) (o := .cells #[.int .i64 a0_0, .int .i64 a0_1, .int .i64 a0_2, .slice (some ad120) l0_3.length c0_3] 24 (0, 0)) (zc BK115) hb)
            replace BK121 := zh (blk_below (g := gb121) (o := .cells #[.int .i64 ((rd_T66 l0_3 x4_2).f0), .int .i64 ((rd_T66 l0_3 x4_2).f1), .int .i64 ((rd_T66 l0_3 x4_2).f2), .int .i64 ((rd_T66 l0_3 x4_2).f3)] 66 (0, 0)) (zc BK121) hb)
            replace HB := zh (below_step zb hb)
            (try clear hb)
            (try clear hb2)
            (try clear hk)
            (try clear hi)
            refine hK.out _ _ ⟨vb BK121 0, vb BK121 1, vb BK121 2, vb BK121 3, vb BK115 0, vb BK115 1, vb BK115 2, vb BK115 3⟩ (fun hHeld => ?_)
            clear hK K
            refine zr 58 _ ?_
            refine zu 13 ?_
            refine zu 14 ?_
            refine zn 15 ?_
            refine zn 16 ?_
            refine zn 17 ?_
            refine zu 18 ?_
            refine zu 19 ?_
            refine zd ?_
            try go_wp2
            go_roundg kj16
            case measure => have := HJ1.out; have := HK2.out; have := HJ16.out; omega
            case rel => exact ⟨(false), (wrap64 (x4_2 + 1)), ze, ze, H', ⟨by have := HJ1.out; have := HK2.out; have := HJ16.out; omega⟩, ⟨zc BK115⟩, ⟨zb⟩⟩
          ·replace c24 := Bool.eq_false_iff.mpr c24
           subst c24
           have H1 : (saronref06_Check.l0 kj16 false (wrap64 (x4_2 + 1)) a0_0 a0_1 a0_2 l0_3) = some r := by rw [if_neg (show ¬ (false = true) by decide)] at H; exact H
           clear H
           have H := H1
           clear H1
           have H' := zh H
           clear H
           have hcz48_0 : wc.cell? ⟨gb115, 0, none⟩ = some (.int .i64 a0_0) := vb BK115 0
           have hcz48_1 : wc.cell? ⟨gb115, 1, none⟩ = some (.int .i64 a0_1) := vb BK115 1
           have hcz48_2 : wc.cell? ⟨gb115, 2, none⟩ = some (.int .i64 a0_2) := vb BK115 2
           have hcz48_3 : wc.cell? ⟨gb115, 3, none⟩ = some (.slice A0_3 l0_3.length c0_3) := vb BK115 3
           have hfz48_0 := blk_frozen BK115.out 0
           have hfz48_1 := blk_frozen BK115.out 1
           have hfz48_2 := blk_frozen BK115.out 2
           have hfz48_3 := blk_frozen BK115.out 3
           have p120 : 0 ≤ (x4_2 : Int) := of_decide_eq_true zs
           have q120 : x4_2 < (l0_3.length : Int) := of_decide_eq_true zs
           obtain ⟨ad120, e120, hx120_0, hx120_1, hx120_2, hx120_3⟩ := at_T66 HR0_3.out x4_2 p120 q120
           cases e120
           replace hx120_0 := ve HB.out hx120_0
           replace hx120_1 := ve HB.out hx120_1
           replace hx120_2 := ve HB.out hx120_2
           replace hx120_3 := ve HB.out hx120_3
           replace p120 := eq_true p120
           replace q120 := eq_true q120
           try go_wp2_with (first | ((with_reducible refine gate_dst (N := 5) rfl ?_); (try (refine gate_guard (by rfl) ?_; dsimp only)); refine box_event ?hg (N := 5) ?hd (cs := #[.int .i64 0, .int .i64 0, .int .i64 0, .int .i64 0]) (t := 66) ?hr ?_; (case hd => rfl); (case hg => rfl); (case hr => first | (go_simp; done) | (go_simp; rfl)); intro gb121 hg w49 hbox hb; have n0_ := zh (blk_below (g := gb115) (o := .cells #[.int .i64 a0_0, .int .i64 a0_1, .int .i64 a0_2, .slice (some ad120) l0_3.length c0_3] 24 (0, 0)) (zc BK115) hb); have n1_ := zh (below_step zb hb); have n2_ := zh (hbox); have n3_ := zh ((by rw [hg]; exact (below_size zb) : w.heap.size ≤ gb121)); have n4_ := zh ((by rw [hg]; exact (below_size zb) : w.heap.size ≤ gb121)); have n5_ := zh ((by rw [hg]; exact Nat.ne_of_lt (blk_lt (g := gb115) (o := .cells #[.int .i64 a0_0, .int .i64 a0_1, .int .i64 a0_2, .slice (some ad120) l0_3.length c0_3] 24 (0, 0)) (zc BK115)) : gb115 ≠ gb121)); have n6_ := zh ((by rw [hg]; exact Nat.ne_of_gt (blk_lt (g := gb115) (o := .cells #[.int .i64 a0_0, .int .i64 a0_1, .int .i64 a0_2, .slice (some ad120) l0_3.length c0_3] 24 (0, 0)) (zc BK115)) : gb121 ≠ gb115)); clear BK115; clear HB; have BK115 := n0_; have HB := n1_; have BK121 := n2_; have GW121 := n3_; have GE121 := n4_; have NB115_121 := n5_; have NB121_115 := n6_; clear n0_ n1_ n2_ n3_ n4_ n5_ n6_; clear hb hbox hg; have hnb50 := NB121_115.out; have hnc50 := NB115_121.out; have hcz51_0 : w49.cell? ⟨gb121, 0, none⟩ = some (.int .i64 0) := vb BK121 0; have hcz51_1 : w49.cell? ⟨gb121, 1, none⟩ = some (.int .i64 0) := vb BK121 1; have hcz51_2 : w49.cell? ⟨gb121, 2, none⟩ = some (.int .i64 0) := vb BK121 2; have hcz51_3 : w49.cell? ⟨gb121, 3, none⟩ = some (.int .i64 0) := vb BK121 3; have hfz51_0 := blk_frozen BK121.out 0; have hfz51_1 := blk_frozen BK121.out 1; have hfz51_2 := blk_frozen BK121.out 2; have hfz51_3 := blk_frozen BK121.out 3))
           have n0_ : Aside0 (((((w49.setCell ⟨gb121, 0, none⟩ (.int .i64 ((rd_T66 l0_3 x4_2).f0))).setCell ⟨gb121, 1, none⟩ (.int .i64 ((rd_T66 l0_3 x4_2).f1))).setCell ⟨gb121, 2, none⟩ (.int .i64 ((rd_T66 l0_3 x4_2).f2))).setCell ⟨gb121, 3, none⟩ (.int .i64 ((rd_T66 l0_3 x4_2).f3))).heap[gb115]? = some (.cells #[.int .i64 a0_0, .int .i64 a0_1, .int .i64 a0_2, .slice (some ad120) l0_3.length c0_3] 24 (0, 0))) := ⟨by (with_reducible repeat (first | refine blk_drewN ?_ _ | refine blk_drew ?_ | refine blk_alloc ?_ _)); refine blk_far ?_ NB115_121.out _; (with_reducible repeat (first | refine blk_drewN ?_ _ | refine blk_drew ?_ | refine blk_alloc ?_ _)); refine blk_far ?_ NB115_121.out _; (with_reducible repeat (first | refine blk_drewN ?_ _ | refine blk_drew ?_ | refine blk_alloc ?_ _)); refine blk_far ?_ NB115_121.out _; (with_reducible repeat (first | refine blk_drewN ?_ _ | refine blk_drew ?_ | refine blk_alloc ?_ _)); refine blk_far ?_ NB115_121.out _; (with_reducible repeat (first | refine blk_drewN ?_ _ | refine blk_drew ?_ | refine blk_alloc ?_ _)); exact BK115.out⟩
           have n1_ : Aside0 (((((w49.setCell ⟨gb121, 0, none⟩ (.int .i64 ((rd_T66 l0_3 x4_2).f0))).setCell ⟨gb121, 1, none⟩ (.int .i64 ((rd_T66 l0_3 x4_2).f1))).setCell ⟨gb121, 2, none⟩ (.int .i64 ((rd_T66 l0_3 x4_2).f2))).setCell ⟨gb121, 3, none⟩ (.int .i64 ((rd_T66 l0_3 x4_2).f3))).heap[gb121]? = some (.cells #[.int .i64 ((rd_T66 l0_3 x4_2).f0), .int .i64 ((rd_T66 l0_3 x4_2).f1), .int .i64 ((rd_T66 l0_3 x4_2).f2), .int .i64 ((rd_T66 l0_3 x4_2).f3)] 66 (0, 0))) := ⟨by (with_reducible repeat (first | refine blk_drewN ?_ _ | refine blk_drew ?_ | refine blk_alloc ?_ _)); refine blk_put (cs := #[.int .i64 ((rd_T66 l0_3 x4_2).f0), .int .i64 ((rd_T66 l0_3 x4_2).f1), .int .i64 ((rd_T66 l0_3 x4_2).f2), .int .i64 0]) ?_ 3 _ rfl; (with_reducible repeat (first | refine blk_drewN ?_ _ | refine blk_drew ?_ | refine blk_alloc ?_ _)); refine blk_put (cs := #[.int .i64 ((rd_T66 l0_3 x4_2).f0), .int .i64 ((rd_T66 l0_3 x4_2).f1), .int .i64 0, .int .i64 0]) ?_ 2 _ rfl; (with_reducible repeat (first | refine blk_drewN ?_ _ | refine blk_drew ?_ | refine blk_alloc ?_ _)); refine blk_put (cs := #[.int .i64 ((rd_T66 l0_3 x4_2).f0), .int .i64 0, .int .i64 0, .int .i64 0]) ?_ 1 _ rfl; (with_reducible repeat (first | refine blk_drewN ?_ _ | refine blk_drew ?_ | refine blk_alloc ?_ _)); refine blk_put (cs := #[.int .i64 0, .int .i64 0, .int .i64 0, .int .i64 0]) ?_ 0 _ rfl; (with_reducible repeat (first | refine blk_drewN ?_ _ | refine blk_drew ?_ | refine blk_alloc ?_ _)); exact BK121.out⟩
           have n2_ : Aside0 (Below w.heap.size w ((((w49.setCell ⟨gb121, 0, none⟩ (.int .i64 ((rd_T66 l0_3 x4_2).f0))).setCell ⟨gb121, 1, none⟩ (.int .i64 ((rd_T66 l0_3 x4_2).f1))).setCell ⟨gb121, 2, none⟩ (.int .i64 ((rd_T66 l0_3 x4_2).f2))).setCell ⟨gb121, 3, none⟩ (.int .i64 ((rd_T66 l0_3 x4_2).f3)))) := ⟨zb⟩
           (try clear BK115)
           (try clear BK121)
           (try clear HB)
           generalize ((((w49.setCell ⟨gb121, 0, none⟩ (.int .i64 ((rd_T66 l0_3 x4_2).f0))).setCell ⟨gb121, 1, none⟩ (.int .i64 ((rd_T66 l0_3 x4_2).f1))).setCell ⟨gb121, 2, none⟩ (.int .i64 ((rd_T66 l0_3 x4_2).f2))).setCell ⟨gb121, 3, none⟩ (.int .i64 ((rd_T66 l0_3 x4_2).f3))) = w52 at n0_ n1_ n2_ ⊢
           have BK115 := n0_
           have BK121 := n1_
           have HB := n2_
           clear n0_ n1_ n2_
           replace BK115 := zh (blk_drew BK115.out)
           replace BK121 := zh (blk_drew BK121.out)
           replace HB := zh (below_drew1 HB.out)
           refine start_ (n := 20) (S := fun w' => w'.cell? ⟨gb121, 0, none⟩ = some (.int .i64 ((rd_T66 l0_3 x4_2).f0)) ∧ w'.cell? ⟨gb121, 1, none⟩ = some (.int .i64 ((rd_T66 l0_3 x4_2).f1)) ∧ w'.cell? ⟨gb121, 2, none⟩ = some (.int .i64 ((rd_T66 l0_3 x4_2).f2)) ∧ w'.cell? ⟨gb121, 3, none⟩ = some (.int .i64 ((rd_T66 l0_3 x4_2).f3))) (ds := []) (Array.replicate 20 false) zk rfl rfl ⟨vb BK121 0, vb BK121 1, vb BK121 2, vb BK121 3⟩ (fun hHeld => ?_); refine with_tabW saronref06_Check.tab6 saronref06_Check.bits6 (fun HT_ HW_ => ?_)
           generalize w52.drew = w53 at BK115 BK121 HB hHeld ⊢
           refine zu 0 ?_
           refine zt 1 ?_
           refine zo 2 (fun K hK => ?_)
           refine goes_ Tryd.func45 zk rfl #[.int .i64 ((rd_T66 l0_3 x4_2).f0), .int .i64 0, .int .i64 4] (by rfl) rfl rfl zm ?_
           with_reducible refine (saronref00_Sits.calls ((rd_T66 l0_3 x4_2).f0) 0 4 false _ A23.out).mono ?_
           rintro e w' ⟨rfl, ⟨nd, rfl⟩⟩
           refine ⟨_, rfl, ?_⟩
           refine hK.out _ _ ⟨vb BK121 0, vb BK121 1, vb BK121 2, vb BK121 3⟩ (fun hHeld => ?_)
           clear hK K
           refine zr 48 _ ?_
           refine zu 3 ?_
           refine zn 4 ?_
           refine zn 5 ?_
           refine zn 6 ?_
           refine zn 7 ?_
           refine zn 8 ?_
           refine zn 9 ?_
           refine zn 10 ?_
           refine zn 11 ?_
           refine zn 12 ?_
           refine zu 13 ?_
           refine zu 14 ?_
           refine zn 15 ?_
           refine zn 16 ?_
           refine zn 17 ?_
           refine zu 18 ?_
           refine zu 19 ?_
           refine zd ?_
           try go_wp2
           go_roundg kj16
           case measure => have := HJ1.out; have := HK2.out; have := HJ16.out; omega
           case rel => exact ⟨(false), (wrap64 (x4_2 + 1)), ze, ze, H', ⟨by have := HJ1.out; have := HK2.out; have := HJ16.out; omega⟩, ⟨zc BK115⟩, ⟨zb⟩⟩
         ·rw [if_neg c22] at H
          exact absurd H (by simp)
        ·rw [if_neg c21] at H
         exact absurd H (by simp)
       ·replace c20 := Bool.eq_false_iff.mpr c20
        subst c20
        have H1 : (if x3_2 = true then (some 0) else (some 60)) = some r := by rw [if_neg (show ¬ (false = true) by decide)] at H; exact H
        clear H
        have H := H1
        clear H1
        by_cases c54 : x3_2 = true
        ·subst c54
         have H1 : (some 0) = some r := by rw [if_pos rfl] at H; exact H
         clear H
         have H := H1
         clear H1
         obtain rfl := Option.some.inj H
         go_wp2
         go_ret
         exact ⟨zf, zb⟩
        ·replace c54 := Bool.eq_false_iff.mpr c54
         subst c54
         have H1 : (some 60) = some r := by rw [if_neg (show ¬ (false = true) by decide)] at H; exact H
         clear H
         have H := H1
         clear H1
         obtain rfl := Option.some.inj H
         go_wp2
         go_ret
         exact ⟨zf, zb⟩
end Go.Proofs.YtagkfkdoibnhfaaDoor.H
end
section
namespace Go.Proofs.YtagkfkdoibnhfaaDoor.K
open Go.RowKit Go.Proofs.YtagkfkdoibnhfaaDoor.H
theorem sits_f (a b c : Int) : saronref00_Sits.f a b c = some (decide (b ≤ a) && decide (a ≤ c)) := by
 unfold saronref00_Sits.f
 by_cases h : b ≤ a <;> simp [h]
theorem good_f (x y a b : Int) : saronref00_Good.f x y a b = some (decide (a ≤ x) && decide (x ≤ y) && decide (y ≤ b)) := by
 unfold saronref00_Good.f
 by_cases h : a ≤ x <;> by_cases h' : x ≤ y <;> simp [h, h']
theorem rcheck_l0 (T O L : Int) (R : List S66) (hR : R.length ≤ 9223372036854775807) :
  ∀ (d k i : Nat) (ok : Bool), R.length - i = d → i ≤ R.length → 2 * d + 2 ≤ k → (ok = true → 2 ≤ T ∧ T ≤ 7 ∧ 1 ≤ O ∧ O ≤ 3) →
   saronref06_Check.l0 k ok (i : Int) T O L R = some (if ok && (R.drop i).all (okReg (T * O)) then 0 else 60)
 | d, k, i, false, hd, hi, hk, h => by
  obtain ⟨k, rfl⟩ : ∃ m, k = m + 2 := ⟨k - 2, by omega⟩
  simp [saronref06_Check.l0, saronref06_Check.j2]
 | 0, k, i, true, hd, hi, hk, h => by
  obtain ⟨k, rfl⟩ : ∃ m, k = m + 2 := ⟨k - 2, by omega⟩
  obtain rfl : i = R.length := by omega
  simp [saronref06_Check.l0, saronref06_Check.j2]
 | d + 1, k, i, true, hd, hi, hk, h => by
  obtain ⟨k, rfl⟩ : ∃ m, k = m + 2 := ⟨k - 2, by omega⟩
  have hlt : i < R.length := by omega
  have e : wrap64 ((i : Int) + 1) = ((i + 1 : Nat) : Int) := by rw [w64 (by omega) (by omega)]; simp
  obtain ⟨t1, t2, t3, t4⟩ := h rfl
  obtain ⟨m1, m2⟩ := mul_range t1 t2 t3 t4
  have ih := fun ok' => rcheck_l0 T O L R hR d k (i + 1) ok' (by omega) (by omega) (by omega) (fun _ => ⟨t1, t2, t3, t4⟩)
  have hdec : decide ((i : Int) < (R.length : Int)) = true := decide_eq_true (by omega)
  simp only [saronref06_Check.l0, saronref06_Check.j2, hdec, if_true]
  rw [if_pos (by omega), if_pos (by omega), e, rd66 R i hlt]
  simp only [sits_f, good_f, saronref00_Band.f, saronref06_tones.f, Option.bind_some, ih]
  rw [w64 (by omega) (by omega : T * O ≤ 9223372036854775807), w64 (by omega) (by omega : T * O - 1 ≤ 9223372036854775807)]
  rw [List.drop_eq_getElem_cons hlt, List.all_cons]
  simp only [okReg, Bool.true_and, Bool.and_assoc]
  generalize hA : (List.drop (i + 1) R).all _ = A
  by_cases a0 : 0 ≤ R[i].f0 <;> by_cases a1 : R[i].f0 ≤ 4 <;> by_cases a2 : 0 ≤ R[i].f1 <;> by_cases a3 : R[i].f1 ≤ R[i].f2 <;> by_cases a4 : 0 ≤ R[i].f2 <;> by_cases a5 : R[i].f2 ≤ T * O - 1 <;> by_cases a6 : -6 ≤ R[i].f3 <;> by_cases a7 : R[i].f3 ≤ 6 <;> first | (exfalso; omega) | simp [a0, a1, a2, a3, a4, a5, a6, a7]
theorem rcheck_f (T O L : Int) (R : List S66) (hR : R.length ≤ 9223372036854775807) (k : Nat) (hk : 2 * R.length + 3 ≤ k) : saronref06_Check.f k T O L R = some (if okScale T O L R then 0 else 60) := by
 obtain ⟨k, rfl⟩ : ∃ m, k = m + 1 := ⟨k - 1, by omega⟩
 have j : ∀ ok, (ok = true → 2 ≤ T ∧ T ≤ 7 ∧ 1 ≤ O ∧ O ≤ 3) → saronref06_Check.j0 (k + 1) ok T O L R = some (if ok && R.all (okReg (T * O)) then 0 else 60) := fun ok h => by
  simp only [saronref06_Check.j0]
  have := rcheck_l0 T O L R hR R.length k 0 ok (by omega) (by omega) (by omega) h
  simpa using this
 have jf := j false (by simp)
 unfold saronref06_Check.f okScale
 simp only [sits_f, Option.bind_some, jf]
 by_cases h1 : 2 ≤ T <;> by_cases h2 : T ≤ 7 <;> by_cases h3 : 1 ≤ O <;> by_cases h4 : O ≤ 3 <;> simp only [h1, h2, h3, h4, decide_true, decide_false, Bool.true_and, Bool.false_and, Bool.and_true, Bool.and_false, if_true, if_false, Bool.false_eq_true]
 by_cases h5 : 2 ≤ L <;> by_cases h6 : L ≤ 16 <;> simp only [h5, h6, decide_true, decide_false, Bool.true_and, Bool.false_and, Bool.and_true, Bool.and_false, if_true, if_false, Bool.false_eq_true]
 by_cases h7 : L % 2 = 0
 ·rw [if_pos ((tmod_zero _ _).2 h7), j _ (fun _ => ⟨h1, h2, h3, h4⟩)]
  have e1 : decide ((1 : Int) ≤ (R.length : Int)) = decide (1 ≤ R.length) := by rw [decide_eq_decide]; omega
  have e2 : decide ((R.length : Int) ≤ 5) = decide (R.length ≤ 5) := by rw [decide_eq_decide]; omega
  rw [e1, e2]
  simp [h7]
 ·rw [if_neg (fun e => h7 ((tmod_zero _ _).1 e))]
  simp [h7]
end Go.Proofs.YtagkfkdoibnhfaaDoor.K
end
section
namespace Go.Proofs.YtagkfkdoibnhfaaDoor.H
open Go.RowKit Go.Proofs.YtagkfkdoibnhfaaDoorW.PrintWords Go.Proofs.YtagkfkdoibnhfaaDoorW.PrintLast Go.Proofs.YtagkfkdoibnhfaaDoorW.PrintMore
attribute [local go_sem] max2_int min2_int max_two min_two max_three min_three max_four min_four   -- for this text's walks alone
set_option linter.unusedVariables false
set_option linter.unusedSimpArgs false
def saronref06_plays.l0 : Nat → Int → Int → Int → Int → Int → List (S66) → Int → Int → Int → Int → Option (Int)
 | 0, _, _, _, _, _, _, _, _, _, _ => none
 | k + 1, x2, x7, x129000, x129001, x129002, x129003, x130000, x130001, x130002, x130003 => if x7 ≤ x130002 then ((saronref00_Turn.f (wrap64 (x7 - x2)) x129000).bind fun t131 => (if t131 = 0 then (some x7) else (saronref06_plays.l0 k x2 (wrap64 (x7 + 1)) x129000 x129001 x129002 x129003 x130000 x130001 x130002 x130003))) else (some (-1))
def saronref06_plays.f (k : Nat) (a0_0 : Int) (a0_1 : Int) (a0_2 : Int) (l0_3 : List (S66)) (a1_0 : Int) (a1_1 : Int) (a1_2 : Int) (a1_3 : Int) (a2 : Int) : Option (Int) := (saronref00_Sits.f a2 a1_1 a1_2).bind fun t130 => (if t130 = true then (some a2) else (saronref06_plays.l0 k a2 a1_1 a0_0 a0_1 a0_2 l0_3 a1_0 a1_1 a1_2 a1_3))
set_option maxHeartbeats 8000000 in
set_option maxRecDepth 100000 in
theorem saronref06_plays.calls (k : Nat) (a0_0 : Int) (a0_1 : Int) (a0_2 : Int) (A0_3 : Option Addr) (c0_3 : Nat) (l0_3 : List (S66)) (a1_0 : Int) (a1_1 : Int) (a1_2 : Int) (a1_3 : Int) (a2 : Int) (r : Int) (w : World) (hr0_3 : Kd.C k66 w A0_3 l0_3.length l0_3) (hc0_3 : l0_3.length ≤ c0_3) (h : saronref06_plays.f k a0_0 a0_1 a0_2 l0_3 a1_0 a1_1 a1_2 a1_3 a2 = some r) :
  Calls Tryd.prog 90 #[.agg #[.int .i64 a0_0, .int .i64 a0_1, .int .i64 a0_2, .slice A0_3 l0_3.length c0_3], .agg #[.int .i64 a1_0, .int .i64 a1_1, .int .i64 a1_2, .int .i64 a1_3], .int .i64 a2] w fun e w' => e = .returned (.int .i64 r) ∧ Below w.heap.size w w' := by
 have hu24 := Tryd.underlying24
 have hu66 := Tryd.underlying66
 have HR0_3 := zh hr0_3
 have HC0_3 := zh hc0_3
 clear hr0_3 hc0_3
 have HB := zh (Below.refl w.heap.size w)
 have H : ((saronref00_Sits.f a2 a1_1 a1_2).bind fun t130 => (if t130 = true then (some a2) else (saronref06_plays.l0 k a2 a1_1 a0_0 a0_1 a0_2 l0_3 a1_0 a1_1 a1_2 a1_3))) = some r := h
 clear h
 replace H := Option.bind_eq_some_iff.mp H
 obtain ⟨t130, A40, H⟩ := H
 replace H : (if t130 = true then (some a2) else (saronref06_plays.l0 k a2 a1_1 a0_0 a0_1 a0_2 l0_3 a1_0 a1_1 a1_2 a1_3)) = some r := H
 have A4 := zh A40
 clear A40
 by_cases c5 : t130 = true
 ·subst c5
  have H1 : (some a2) = some r := by rw [if_pos rfl] at H; exact H
  clear H
  have H := H1
  clear H1
  obtain rfl := Option.some.inj H
  go_enter Tryd.func90, Tryd.ntmps90
  go_wp2_with (first | ((with_reducible refine gate_dst (N := 3) rfl ?_); refine box_event ?hg (N := 3) ?hd (cs := #[.int .i64 a0_0, .int .i64 a0_1, .int .i64 a0_2, .slice A0_3 l0_3.length c0_3]) (t := 24) ?hr ?_; (case hd => rfl); (case hg => rfl); (case hr => first | (go_simp; done) | (go_simp; rfl)); intro gb128 hg w6 hbox hb; have n0_ := zh (below_step zb hb); have n1_ := zh (hbox); have n2_ := zh ((by rw [hg]; exact (below_size zb) : w.heap.size ≤ gb128)); have n3_ := zh ((by rw [hg]; exact (below_size zb) : w.heap.size ≤ gb128)); clear HB; have HB := n0_; have BK128 := n1_; have GW128 := n2_; have GE128 := n3_; clear n0_ n1_ n2_ n3_; clear hb hbox hg) | ((with_reducible refine gate_dst (N := 4) rfl ?_); refine box_event ?hg (N := 4) ?hd (cs := #[.int .i64 a1_0, .int .i64 a1_1, .int .i64 a1_2, .int .i64 a1_3]) (t := 66) ?hr ?_; (case hd => rfl); (case hg => rfl); (case hr => first | (go_simp; done) | (go_simp; rfl)); intro gb129 hg w7 hbox hb; have n0_ := zh (blk_below (g := gb128) (o := .cells #[.int .i64 a0_0, .int .i64 a0_1, .int .i64 a0_2, .slice A0_3 l0_3.length c0_3] 24 (0, 0)) (zc BK128) hb); have n1_ := zh (below_step zb hb); have n2_ := zh (hbox); have n3_ := zh ((by rw [hg]; exact (below_size zb) : w.heap.size ≤ gb129)); have n4_ := zh ((by rw [hg]; exact (below_size zb) : w.heap.size ≤ gb129)); have n5_ := zh ((by rw [hg]; exact Nat.ne_of_lt (blk_lt (g := gb128) (o := .cells #[.int .i64 a0_0, .int .i64 a0_1, .int .i64 a0_2, .slice A0_3 l0_3.length c0_3] 24 (0, 0)) (zc BK128)) : gb128 ≠ gb129)); have n6_ := zh ((by rw [hg]; exact Nat.ne_of_gt (blk_lt (g := gb128) (o := .cells #[.int .i64 a0_0, .int .i64 a0_1, .int .i64 a0_2, .slice A0_3 l0_3.length c0_3] 24 (0, 0)) (zc BK128)) : gb129 ≠ gb128)); clear BK128; clear HB; have BK128 := n0_; have HB := n1_; have BK129 := n2_; have GW129 := n3_; have GE129 := n4_; have NB128_129 := n5_; have NB129_128 := n6_; clear n0_ n1_ n2_ n3_ n4_ n5_ n6_; clear hb hbox hg; have hnb8 := NB129_128.out; have hnc8 := NB128_129.out; have hcz9_0 : w7.cell? ⟨gb129, 0, none⟩ = some (.int .i64 a1_0) := vb BK129 0; have hcz9_1 : w7.cell? ⟨gb129, 1, none⟩ = some (.int .i64 a1_1) := vb BK129 1; have hcz9_2 : w7.cell? ⟨gb129, 2, none⟩ = some (.int .i64 a1_2) := vb BK129 2; have hcz9_3 : w7.cell? ⟨gb129, 3, none⟩ = some (.int .i64 a1_3) := vb BK129 3; have hfz9_0 := blk_frozen BK129.out 0; have hfz9_1 := blk_frozen BK129.out 1; have hfz9_2 := blk_frozen BK129.out 2; have hfz9_3 := blk_frozen BK129.out 3) | ((with_reducible refine gate_callee (f := 45) rfl ?_); refine goesL_ (some 13) rfl rfl Tryd.func45 zk rfl #[.int .i64 a2, .int .i64 a1_1, .int .i64 a1_2] rfl zm ?_; (with_reducible refine (saronref00_Sits.calls a2 a1_1 a1_2 true _ A4.out).mono ?_); rintro e w' ⟨rfl, ⟨nd, rfl⟩⟩; refine ⟨_, rfl, ?_⟩))
  go_ret
  exact ⟨zf, zb⟩
 ·replace c5 := Bool.eq_false_iff.mpr c5
  subst c5
  have H1 : (saronref06_plays.l0 k a2 a1_1 a0_0 a0_1 a0_2 l0_3 a1_0 a1_1 a1_2 a1_3) = some r := by rw [if_neg (show ¬ (false = true) by decide)] at H; exact H
  clear H
  have H := H1
  clear H1
  have H' := zh H
  clear H
  go_enter Tryd.func90, Tryd.ntmps90
  go_wp2_with (first | ((with_reducible refine gate_dst (N := 3) rfl ?_); refine box_event ?hg (N := 3) ?hd (cs := #[.int .i64 a0_0, .int .i64 a0_1, .int .i64 a0_2, .slice A0_3 l0_3.length c0_3]) (t := 24) ?hr ?_; (case hd => rfl); (case hg => rfl); (case hr => first | (go_simp; done) | (go_simp; rfl)); intro gb128 hg w10 hbox hb; have n0_ := zh (below_step zb hb); have n1_ := zh (hbox); have n2_ := zh ((by rw [hg]; exact (below_size zb) : w.heap.size ≤ gb128)); have n3_ := zh ((by rw [hg]; exact (below_size zb) : w.heap.size ≤ gb128)); clear HB; have HB := n0_; have BK128 := n1_; have GW128 := n2_; have GE128 := n3_; clear n0_ n1_ n2_ n3_; clear hb hbox hg) | ((with_reducible refine gate_dst (N := 4) rfl ?_); refine box_event ?hg (N := 4) ?hd (cs := #[.int .i64 a1_0, .int .i64 a1_1, .int .i64 a1_2, .int .i64 a1_3]) (t := 66) ?hr ?_; (case hd => rfl); (case hg => rfl); (case hr => first | (go_simp; done) | (go_simp; rfl)); intro gb129 hg w11 hbox hb; have n0_ := zh (blk_below (g := gb128) (o := .cells #[.int .i64 a0_0, .int .i64 a0_1, .int .i64 a0_2, .slice A0_3 l0_3.length c0_3] 24 (0, 0)) (zc BK128) hb); have n1_ := zh (below_step zb hb); have n2_ := zh (hbox); have n3_ := zh ((by rw [hg]; exact (below_size zb) : w.heap.size ≤ gb129)); have n4_ := zh ((by rw [hg]; exact (below_size zb) : w.heap.size ≤ gb129)); have n5_ := zh ((by rw [hg]; exact Nat.ne_of_lt (blk_lt (g := gb128) (o := .cells #[.int .i64 a0_0, .int .i64 a0_1, .int .i64 a0_2, .slice A0_3 l0_3.length c0_3] 24 (0, 0)) (zc BK128)) : gb128 ≠ gb129)); have n6_ := zh ((by rw [hg]; exact Nat.ne_of_gt (blk_lt (g := gb128) (o := .cells #[.int .i64 a0_0, .int .i64 a0_1, .int .i64 a0_2, .slice A0_3 l0_3.length c0_3] 24 (0, 0)) (zc BK128)) : gb129 ≠ gb128)); clear BK128; clear HB; have BK128 := n0_; have HB := n1_; have BK129 := n2_; have GW129 := n3_; have GE129 := n4_; have NB128_129 := n5_; have NB129_128 := n6_; clear n0_ n1_ n2_ n3_ n4_ n5_ n6_; clear hb hbox hg; have hnb12 := NB129_128.out; have hnc12 := NB128_129.out; have hcz13_0 : w11.cell? ⟨gb129, 0, none⟩ = some (.int .i64 a1_0) := vb BK129 0; have hcz13_1 : w11.cell? ⟨gb129, 1, none⟩ = some (.int .i64 a1_1) := vb BK129 1; have hcz13_2 : w11.cell? ⟨gb129, 2, none⟩ = some (.int .i64 a1_2) := vb BK129 2; have hcz13_3 : w11.cell? ⟨gb129, 3, none⟩ = some (.int .i64 a1_3) := vb BK129 3; have hfz13_0 := blk_frozen BK129.out 0; have hfz13_1 := blk_frozen BK129.out 1; have hfz13_2 := blk_frozen BK129.out 2; have hfz13_3 := blk_frozen BK129.out 3) | ((with_reducible refine gate_callee (f := 45) rfl ?_); refine goesL_ (some 13) rfl rfl Tryd.func45 zk rfl #[.int .i64 a2, .int .i64 a1_1, .int .i64 a1_2] rfl zm ?_; (with_reducible refine (saronref00_Sits.calls a2 a1_1 a1_2 false _ A4.out).mono ?_); rintro e w' ⟨rfl, ⟨nd, rfl⟩⟩; refine ⟨_, rfl, ?_⟩))
  go_loopg [7] k (fun kq v7 w' => ∃ (x7_1 : Int), v7 = .int .i64 x7_1 ∧ Aside0 (saronref06_plays.l0 kq a2 x7_1 a0_0 a0_1 a0_2 l0_3 a1_0 a1_1 a1_2 a1_3 = some r) ∧ Aside0 (kq ≤ k) ∧ Aside0 (w'.heap[gb128]? = some (.cells #[.int .i64 a0_0, .int .i64 a0_1, .int .i64 a0_2, (.slice A0_3 l0_3.length c0_3)] 24 (0, 0))) ∧ Aside0 (w'.heap[gb129]? = some (.cells #[.int .i64 a1_0, .int .i64 a1_1, .int .i64 a1_2, .int .i64 a1_3] 66 (0, 0))) ∧ Aside0 (Below w.heap.size w w'))
  case atStart => exact ⟨(a1_1), ze, H', ⟨Nat.le_refl _⟩, ⟨zc BK128⟩, ⟨zc BK129⟩, ⟨zb⟩⟩
  case round =>
   clear H'
   try clear c1
   try clear p2
   try clear c4
   try clear c5
   try clear c8
   try clear c9
   try clear c12
   try clear hcz13_0
   try clear hcz13_1
   try clear hcz13_2
   try clear hcz13_3
   try clear hcz9_0
   try clear hcz9_1
   try clear hcz9_2
   try clear hcz9_3
   try clear hfz13_0
   try clear hfz13_1
   try clear hfz13_2
   try clear hfz13_3
   try clear hfz9_0
   try clear hfz9_1
   try clear hfz9_2
   try clear hfz9_3
   obtain ⟨x7_1, rfl, HA, HK1, BK128, BK129, HB⟩ := hrel
   cases gk with
   | zero => exact absurd HA.out (by simp [saronref06_plays.l0])
   | succ k1 =>
    have H := HA.out
    clear HA
    simp only [saronref06_plays.l0] at H
    by_cases c14 : x7_1 ≤ a1_2
    ·rw [if_pos c14] at H
     have c14b0 : decide (x7_1 ≤ a1_2) = true := decide_eq_true c14
     clear c14
     replace H := Option.bind_eq_some_iff.mp H
     obtain ⟨t131, A150, H⟩ := H
     replace H : (if t131 = 0 then (some x7_1) else (saronref06_plays.l0 k1 a2 (wrap64 (x7_1 + 1)) a0_0 a0_1 a0_2 l0_3 a1_0 a1_1 a1_2 a1_3)) = some r := H
     have A15 := zh A150
     clear A150
     by_cases c16 : t131 = 0
     ·rw [if_pos c16] at H
      have c16b0 : (t131 == 0) = true := beq_iff_eq.mpr c16
      have c16b1 : (t131 != 0) = false := bne_eq_false_iff_eq.mpr c16
      clear c16
      obtain rfl := Option.some.inj H
      have hnb17 := NB129_128.out
      have hnc17 := NB128_129.out
      have hcz18_0 : wr.cell? ⟨gb129, 0, none⟩ = some (.int .i64 a1_0) := vb BK129 0
      have hcz18_1 : wr.cell? ⟨gb129, 1, none⟩ = some (.int .i64 a1_1) := vb BK129 1
      have hcz18_2 : wr.cell? ⟨gb129, 2, none⟩ = some (.int .i64 a1_2) := vb BK129 2
      have hcz18_3 : wr.cell? ⟨gb129, 3, none⟩ = some (.int .i64 a1_3) := vb BK129 3
      have hfz18_0 := blk_frozen BK129.out 0
      have hfz18_1 := blk_frozen BK129.out 1
      have hfz18_2 := blk_frozen BK129.out 2
      have hfz18_3 := blk_frozen BK129.out 3
      have hcz19_0 : wr.cell? ⟨gb128, 0, none⟩ = some (.int .i64 a0_0) := vb BK128 0
      have hcz19_1 : wr.cell? ⟨gb128, 1, none⟩ = some (.int .i64 a0_1) := vb BK128 1
      have hcz19_2 : wr.cell? ⟨gb128, 2, none⟩ = some (.int .i64 a0_2) := vb BK128 2
      have hcz19_3 : wr.cell? ⟨gb128, 3, none⟩ = some (.slice A0_3 l0_3.length c0_3) := vb BK128 3
      have hfz19_0 := blk_frozen BK128.out 0
      have hfz19_1 := blk_frozen BK128.out 1
      have hfz19_2 := blk_frozen BK128.out 2
      have hfz19_3 := blk_frozen BK128.out 3
      go_wp2_with (first | ((with_reducible refine gate_callee (f := 42) rfl ?_); refine goesL_ (some 28) rfl rfl Tryd.func42 zk rfl #[.int .i64 (wrap64 (x7_1 - a2)), .int .i64 a0_0] rfl zm ?_; (with_reducible refine (saronref00_Turn.calls (wrap64 (x7_1 - a2)) a0_0 t131 _ A15.out).mono ?_); rintro e w' ⟨rfl, ⟨nd, rfl⟩⟩; refine ⟨_, rfl, ?_⟩))
      go_ret
      exact ⟨zf, zb⟩
     ·rw [if_neg c16] at H
      have c16b0 : (t131 == 0) = false := beq_eq_false_iff_ne.mpr c16
      have c16b1 : (t131 != 0) = true := bne_iff_ne.mpr c16
      have H' := zh H
      clear H
      have hnb20 := NB129_128.out
      have hnc20 := NB128_129.out
      have hcz21_0 : wr.cell? ⟨gb129, 0, none⟩ = some (.int .i64 a1_0) := vb BK129 0
      have hcz21_1 : wr.cell? ⟨gb129, 1, none⟩ = some (.int .i64 a1_1) := vb BK129 1
      have hcz21_2 : wr.cell? ⟨gb129, 2, none⟩ = some (.int .i64 a1_2) := vb BK129 2
      have hcz21_3 : wr.cell? ⟨gb129, 3, none⟩ = some (.int .i64 a1_3) := vb BK129 3
      have hfz21_0 := blk_frozen BK129.out 0
      have hfz21_1 := blk_frozen BK129.out 1
      have hfz21_2 := blk_frozen BK129.out 2
      have hfz21_3 := blk_frozen BK129.out 3
      have hcz22_0 : wr.cell? ⟨gb128, 0, none⟩ = some (.int .i64 a0_0) := vb BK128 0
      have hcz22_1 : wr.cell? ⟨gb128, 1, none⟩ = some (.int .i64 a0_1) := vb BK128 1
      have hcz22_2 : wr.cell? ⟨gb128, 2, none⟩ = some (.int .i64 a0_2) := vb BK128 2
      have hcz22_3 : wr.cell? ⟨gb128, 3, none⟩ = some (.slice A0_3 l0_3.length c0_3) := vb BK128 3
      have hfz22_0 := blk_frozen BK128.out 0
      have hfz22_1 := blk_frozen BK128.out 1
      have hfz22_2 := blk_frozen BK128.out 2
      have hfz22_3 := blk_frozen BK128.out 3
      go_wp2_with (first | ((with_reducible refine gate_callee (f := 42) rfl ?_); refine goesL_ (some 28) rfl rfl Tryd.func42 zk rfl #[.int .i64 (wrap64 (x7_1 - a2)), .int .i64 a0_0] rfl zm ?_; (with_reducible refine (saronref00_Turn.calls (wrap64 (x7_1 - a2)) a0_0 t131 _ A15.out).mono ?_); rintro e w' ⟨rfl, ⟨nd, rfl⟩⟩; refine ⟨_, rfl, ?_⟩))
      go_roundg k1
      case measure => have := HK1.out; omega
      case rel => exact ⟨(wrap64 (x7_1 + 1)), ze, H', ⟨by have := HK1.out; omega⟩, ⟨zc BK128⟩, ⟨zc BK129⟩, ⟨zb⟩⟩
    ·rw [if_neg c14] at H
     have c14b0 : decide (x7_1 ≤ a1_2) = false := decide_eq_false c14
     clear c14
     obtain rfl := Option.some.inj H
     have hnb23 := NB129_128.out
     have hnc23 := NB128_129.out
     have hcz24_0 : wr.cell? ⟨gb129, 0, none⟩ = some (.int .i64 a1_0) := vb BK129 0
     have hcz24_1 : wr.cell? ⟨gb129, 1, none⟩ = some (.int .i64 a1_1) := vb BK129 1
     have hcz24_2 : wr.cell? ⟨gb129, 2, none⟩ = some (.int .i64 a1_2) := vb BK129 2
     have hcz24_3 : wr.cell? ⟨gb129, 3, none⟩ = some (.int .i64 a1_3) := vb BK129 3
     have hfz24_0 := blk_frozen BK129.out 0
     have hfz24_1 := blk_frozen BK129.out 1
     have hfz24_2 := blk_frozen BK129.out 2
     have hfz24_3 := blk_frozen BK129.out 3
     go_wp2
     go_ret
     exact ⟨zf, zb⟩
end Go.Proofs.YtagkfkdoibnhfaaDoor.H
end
section
namespace Go.Proofs.YtagkfkdoibnhfaaDoor.H
open Go.RowKit Go.Proofs.YtagkfkdoibnhfaaDoorW.PrintWords Go.Proofs.YtagkfkdoibnhfaaDoorW.PrintLast Go.Proofs.YtagkfkdoibnhfaaDoorW.PrintMore
attribute [local go_sem] max2_int min2_int max_two min_two max_three min_three max_four min_four   -- for this text's walks alone
set_option linter.unusedVariables false
set_option linter.unusedSimpArgs false
mutual
def saronref06_bar.j0 : Nat → List Int → Int → Int → Int → List (S66) → Int → Int → Int → Int → Option (List Int)
 | 0, _, _, _, _, _, _, _, _, _ => none
 | k + 1, x10, x133000, x133001, x133002, x133003, x135000, x135001, x135002, x135003 => saronref06_bar.l0 k x10 0 x133000 x133001 x133002 x133003 x135000 x135001 x135002 x135003
def saronref06_bar.l0 : Nat → List Int → Int → Int → Int → Int → List (S66) → Int → Int → Int → Int → Option (List Int)
 | 0, _, _, _, _, _, _, _, _, _, _ => none
 | k + 1, x10, x11, x133000, x133001, x133002, x133003, x135000, x135001, x135002, x135003 => if x11 < (x10.length : Int) then (if 0 ≤ x11 then ((saronref06_plays.f k x133000 x133001 x133002 x133003 x135000 x135001 x135002 x135003 (rd x10 x11)).bind fun t151 => (saronref06_bar.l0 k (x10.set (x11 : Int).toNat t151) (wrap64 (x11 + 1)) x133000 x133001 x133002 x133003 x135000 x135001 x135002 x135003)) else (none)) else (some x10)
end
def saronref06_bar.f (k : Nat) (a0_0 : Int) (a0_1 : Int) (a0_2 : Int) (l0_3 : List (S66)) (a1 : Int) (a2 : Int) (a3 : Int) : Option (List Int) := if 0 ≤ a1 then (if a1 < (l0_3.length : Int) then (if ((rd_T66 l0_3 a1).f0) = 0 then (saronref06_bar.j0 k (([a3] : List Int)) a0_0 a0_1 a0_2 l0_3 ((rd_T66 l0_3 a1).f0) ((rd_T66 l0_3 a1).f1) ((rd_T66 l0_3 a1).f2) ((rd_T66 l0_3 a1).f3)) else (if ((rd_T66 l0_3 a1).f0) = 1 then (saronref06_bar.j0 k (([a2, a3] : List Int)) a0_0 a0_1 a0_2 l0_3 ((rd_T66 l0_3 a1).f0) ((rd_T66 l0_3 a1).f1) ((rd_T66 l0_3 a1).f2) ((rd_T66 l0_3 a1).f3)) else (if ((rd_T66 l0_3 a1).f0) = 2 then (saronref06_bar.j0 k (([a2, a2, a3, a3] : List Int)) a0_0 a0_1 a0_2 l0_3 ((rd_T66 l0_3 a1).f0) ((rd_T66 l0_3 a1).f1) ((rd_T66 l0_3 a1).f2) ((rd_T66 l0_3 a1).f3)) else (if ((rd_T66 l0_3 a1).f0) = 3 then (saronref06_bar.j0 k (([a2, a3, a2, a3] : List Int)) a0_0 a0_1 a0_2 l0_3 ((rd_T66 l0_3 a1).f0) ((rd_T66 l0_3 a1).f1) ((rd_T66 l0_3 a1).f2) ((rd_T66 l0_3 a1).f3)) else (saronref06_bar.j0 k (([wrap64 (a2 + ((rd_T66 l0_3 a1).f3)), a2, wrap64 (a3 + ((rd_T66 l0_3 a1).f3)), a3] : List Int)) a0_0 a0_1 a0_2 l0_3 ((rd_T66 l0_3 a1).f0) ((rd_T66 l0_3 a1).f1) ((rd_T66 l0_3 a1).f2) ((rd_T66 l0_3 a1).f3)))))) else (none)) else (none)
def saronref06_bar.T16 : Bool × List (List Nat × List Nat) := (true, [([], []), ([], []), ([], []), ([], []), ([], []), ([], []), ([4, 5], [4, 5]), ([6], [6]), ([2, 3, 7], [2, 3, 7]), ([0, 1, 0, 1, 2, 3, 4, 5, 6, 7, 8], [0, 1]), ([9, 8, 8, 0, 1, 2, 3, 4, 5, 6, 7, 8], [8, 9])])
def saronref06_bar.B16 : List Nat := [0, 0, 0, 0, 0, 0, 48, 112, 252, 511, 1023]
theorem saronref06_bar.tab16 : rtab .any (opsOf Tryd.f81 16) = saronref06_bar.T16 := by kernel_rfl
theorem saronref06_bar.bits16 : waitsOk saronref06_bar.T16.2 saronref06_bar.B16 = true := by kernel_rfl
set_option maxHeartbeats 8000000 in
set_option maxRecDepth 100000 in
theorem saronref06_bar.calls (k : Nat) (a0_0 : Int) (a0_1 : Int) (a0_2 : Int) (A0_3 : Option Addr) (c0_3 : Nat) (l0_3 : List (S66)) (a1 : Int) (a2 : Int) (a3 : Int) (r : List Int) (w : World) (hr0_3 : Kd.C k66 w A0_3 l0_3.length l0_3) (hc0_3 : l0_3.length ≤ c0_3) (h : saronref06_bar.f k a0_0 a0_1 a0_2 l0_3 a1 a2 a3 = some r) :
  Calls Tryd.prog 81 #[.agg #[.int .i64 a0_0, .int .i64 a0_1, .int .i64 a0_2, .slice A0_3 l0_3.length c0_3], .int .i64 a1, .int .i64 a2, .int .i64 a3] w fun e w' => ∃ v0_ : Value, e = .returned (v0_) ∧ Kd.R (Kd.int .i64) 3 w' w.heap.size (fun _ => True) v0_ r ∧ Below w.heap.size w w' := by
 have hu24 := Tryd.underlying24
 have hu66 := Tryd.underlying66
 have HR0_3 := zh hr0_3
 have HC0_3 := zh hc0_3
 clear hr0_3 hc0_3
 have HB := zh (Below.refl w.heap.size w)
 have H : (if 0 ≤ a1 then (if a1 < (l0_3.length : Int) then (if ((rd_T66 l0_3 a1).f0) = 0 then (saronref06_bar.j0 k (([a3] : List Int)) a0_0 a0_1 a0_2 l0_3 ((rd_T66 l0_3 a1).f0) ((rd_T66 l0_3 a1).f1) ((rd_T66 l0_3 a1).f2) ((rd_T66 l0_3 a1).f3)) else (if ((rd_T66 l0_3 a1).f0) = 1 then (saronref06_bar.j0 k (([a2, a3] : List Int)) a0_0 a0_1 a0_2 l0_3 ((rd_T66 l0_3 a1).f0) ((rd_T66 l0_3 a1).f1) ((rd_T66 l0_3 a1).f2) ((rd_T66 l0_3 a1).f3)) else (if ((rd_T66 l0_3 a1).f0) = 2 then (saronref06_bar.j0 k (([a2, a2, a3, a3] : List Int)) a0_0 a0_1 a0_2 l0_3 ((rd_T66 l0_3 a1).f0) ((rd_T66 l0_3 a1).f1) ((rd_T66 l0_3 a1).f2) ((rd_T66 l0_3 a1).f3)) else (if ((rd_T66 l0_3 a1).f0) = 3 then (saronref06_bar.j0 k (([a2, a3, a2, a3] : List Int)) a0_0 a0_1 a0_2 l0_3 ((rd_T66 l0_3 a1).f0) ((rd_T66 l0_3 a1).f1) ((rd_T66 l0_3 a1).f2) ((rd_T66 l0_3 a1).f3)) else (saronref06_bar.j0 k (([wrap64 (a2 + ((rd_T66 l0_3 a1).f3)), a2, wrap64 (a3 + ((rd_T66 l0_3 a1).f3)), a3] : List Int)) a0_0 a0_1 a0_2 l0_3 ((rd_T66 l0_3 a1).f0) ((rd_T66 l0_3 a1).f1) ((rd_T66 l0_3 a1).f2) ((rd_T66 l0_3 a1).f3)))))) else (none)) else (none)) = some r := h
 clear h
 by_cases c5 : 0 ≤ a1
 ·rw [if_pos c5] at H
  have c5b0 : decide (0 ≤ a1) = true := decide_eq_true c5
  clear c5
  by_cases c6 : a1 < (l0_3.length : Int)
  ·rw [if_pos c6] at H
   have c6b0 : decide (a1 < (l0_3.length : Int)) = true := decide_eq_true c6
   clear c6
   have HC7 := zh H
   clear H
   go_enter Tryd.func81, Tryd.ntmps81
   go_upto_block 0 with (first | ((with_reducible refine gate_dst (N := 4) rfl ?_); refine box_event ?hg (N := 4) ?hd (cs := #[.int .i64 a0_0, .int .i64 a0_1, .int .i64 a0_2, .slice A0_3 l0_3.length c0_3]) (t := 24) ?hr ?_; (case hd => rfl); (case hg => rfl); (case hr => first | (go_simp; done) | (go_simp; rfl)); intro gb132 hg w8 hbox hb; have n0_ := zh (below_step zb hb); have n1_ := zh (hbox); have n2_ := zh ((by rw [hg]; exact (below_size zb) : w.heap.size ≤ gb132)); have n3_ := zh ((by rw [hg]; exact (below_size zb) : w.heap.size ≤ gb132)); clear HB; have HB := n0_; have BK132 := n1_; have GW132 := n2_; have GE132 := n3_; clear n0_ n1_ n2_ n3_; clear hb hbox hg; have hcz9_0 : w8.cell? ⟨gb132, 0, none⟩ = some (.int .i64 a0_0) := vb BK132 0; have hcz9_1 : w8.cell? ⟨gb132, 1, none⟩ = some (.int .i64 a0_1) := vb BK132 1; have hcz9_2 : w8.cell? ⟨gb132, 2, none⟩ = some (.int .i64 a0_2) := vb BK132 2; have hcz9_3 : w8.cell? ⟨gb132, 3, none⟩ = some (.slice A0_3 l0_3.length c0_3) := vb BK132 3; have hfz9_0 := blk_frozen BK132.out 0; have hfz9_1 := blk_frozen BK132.out 1; have hfz9_2 := blk_frozen BK132.out 2; have hfz9_3 := blk_frozen BK132.out 3; have p133 : 0 ≤ (a1 : Int) := of_decide_eq_true zs; have q133 : a1 < (l0_3.length : Int) := of_decide_eq_true zs; obtain ⟨ad133, e133, hx133_0, hx133_1, hx133_2, hx133_3⟩ := at_T66 HR0_3.out a1 p133 q133; cases e133; replace hx133_0 := (HB.out.cell (World.block_lt_of_cell? w _ hx133_0)).trans hx133_0; replace hx133_1 := (HB.out.cell (World.block_lt_of_cell? w _ hx133_1)).trans hx133_1; replace hx133_2 := (HB.out.cell (World.block_lt_of_cell? w _ hx133_2)).trans hx133_2; replace hx133_3 := (HB.out.cell (World.block_lt_of_cell? w _ hx133_3)).trans hx133_3; replace p133 := eq_true p133; replace q133 := eq_true q133) | ((with_reducible refine gate_dst (N := 9) rfl ?_); refine box_event ?hg (N := 9) ?hd (cs := #[.int .i64 0, .int .i64 0, .int .i64 0, .int .i64 0]) (t := 66) ?hr ?_; (case hd => rfl); (case hg => rfl); (case hr => first | (go_simp; done) | (go_simp; rfl)); intro gb134 hg w10 hbox hb; have n0_ := zh (blk_below (g := gb132) (o := .cells #[.int .i64 a0_0, .int .i64 a0_1, .int .i64 a0_2, .slice (some ad133) l0_3.length c0_3] 24 (0, 0)) (zc BK132) hb); have n1_ := zh (below_step zb hb); have n2_ := zh (hbox); have n3_ := zh ((by rw [hg]; exact (below_size zb) : w.heap.size ≤ gb134)); have n4_ := zh ((by rw [hg]; exact (below_size zb) : w.heap.size ≤ gb134)); have n5_ := zh ((by rw [hg]; exact Nat.ne_of_lt (blk_lt (g := gb132) (o := .cells #[.int .i64 a0_0, .int .i64 a0_1, .int .i64 a0_2, .slice (some ad133) l0_3.length c0_3] 24 (0, 0)) (zc BK132)) : gb132 ≠ gb134)); have n6_ := zh ((by rw [hg]; exact Nat.ne_of_gt (blk_lt (g := gb132) (o := .cells #[.int .i64 a0_0, .int .i64 a0_1, .int .i64 a0_2, .slice (some ad133) l0_3.length c0_3] 24 (0, 0)) (zc BK132)) : gb134 ≠ gb132)); clear BK132; clear HB; have BK132 := n0_; have HB := n1_; have BK134 := n2_; have GW134 := n3_; have GE134 := n4_; have NB132_134 := n5_; have NB134_132 := n6_; clear n0_ n1_ n2_ n3_ n4_ n5_ n6_; clear hb hbox hg; have hnb11 := NB134_132.out; have hnc11 := NB132_134.out; have hcz12_0 : w10.cell? ⟨gb134, 0, none⟩ = some (.int .i64 0) := vb BK134 0; have hcz12_1 : w10.cell? ⟨gb134, 1, none⟩ = some (.int .i64 0) := vb BK134 1; have hcz12_2 : w10.cell? ⟨gb134, 2, none⟩ = some (.int .i64 0) := vb BK134 2; have hcz12_3 : w10.cell? ⟨gb134, 3, none⟩ = some (.int .i64 0) := vb BK134 3; have hfz12_0 := blk_frozen BK134.out 0; have hfz12_1 := blk_frozen BK134.out 1; have hfz12_2 := blk_frozen BK134.out 2; have hfz12_3 := blk_frozen BK134.out 3))
   (try simp only [Act.put, List.setIfInBounds_toArray, List.set_cons_zero, List.set_cons_succ])
   go_cut [10] (fun v10 wc => ∃ (kq : Nat) (x10_6 : List Int), Aside0 (saronref06_bar.j0 kq x10_6 a0_0 a0_1 a0_2 l0_3 ((rd_T66 l0_3 a1).f0) ((rd_T66 l0_3 a1).f1) ((rd_T66 l0_3 a1).f2) ((rd_T66 l0_3 a1).f3) = some r) ∧ Aside0 (kq ≤ k) ∧ Aside0 (Kd.R (Kd.int .i64) 3 wc w.heap.size (fun _ => True) v10 x10_6) ∧ Aside0 (wc.heap[gb132]? = some (.cells #[.int .i64 a0_0, .int .i64 a0_1, .int .i64 a0_2, (.slice (some ad133) l0_3.length c0_3)] 24 (0, 0))) ∧ Aside0 (wc.heap[gb134]? = some (.cells #[.int .i64 ((rd_T66 l0_3 a1).f0), .int .i64 ((rd_T66 l0_3 a1).f1), .int .i64 ((rd_T66 l0_3 a1).f2), .int .i64 ((rd_T66 l0_3 a1).f3)] 66 (0, 0))) ∧ Aside0 (Below w.heap.size w wc))
   case first =>
    have H := HC7.out
    clear HC7
    by_cases c13 : ((rd_T66 l0_3 a1).f0) = 0
    ·rw [if_pos c13] at H
     have c13b0 : (((rd_T66 l0_3 a1).f0) == 0) = true := beq_iff_eq.mpr c13
     have c13b1 : (((rd_T66 l0_3 a1).f0) != 0) = false := bne_eq_false_iff_eq.mpr c13
     clear c13
     (first | rw [c13b0] | (simp only [i64_w, i32_w]; rw [c13b0]) | skip)
     obtain ⟨y135, hy135⟩ : ∃ y_ : List Int, y_ = (([a3] : List Int)) := ⟨_, rfl⟩
     replace H : (saronref06_bar.j0 k y135 a0_0 a0_1 a0_2 l0_3 ((rd_T66 l0_3 a1).f0) ((rd_T66 l0_3 a1).f1) ((rd_T66 l0_3 a1).f2) ((rd_T66 l0_3 a1).f3)) = some r := by first | (rw [hy135]; with_reducible exact H) | (have H2_ := (Option.bind_some _ _).symm.trans H; rw [hy135]; with_reducible exact H2_) | (have H2_ := (Option.bind_some _ _).symm.trans H; with_reducible exact H2_) | with_reducible exact H | (rw [hy135]; exact H) | exact H
     have Ny135 := zh hy135
     clear hy135
     have H' := zh H
     clear H
     go_wp2_with (first | ((with_reducible refine gate_dst (N := 33) rfl ?_); refine Kd.R_lit (Kd.int .i64) _ 3 ?hg (N := 33) ?hd (xs := ([a3] : List Int)) (inner := [.int .i64 a3]) (ok := fun _ => True) (okp := fun _ => True) ?hr ?hp (fun _ hk => hk) trivial (Below.refl _ _) (Nat.le_refl _) (by simp) ?_; (case hd => rfl); (case hg => rfl); (case hr => first | (go_simp; done) | (go_simp; rfl)); (case hp => exact (Reps.one (show Kd.M (Kd.int .i64) _ _ _ a3 [.int .i64 a3] from rfl) (Reps.none _ _))); intro v136 w14 ho15 hb hg_ hnew_; clear hg_ hnew_; (first | rw [← Ny135.out] at ho15 | (simp only [Int.reduceToNat] at ho15; rw [← Ny135.out] at ho15)); have n0_ := zh (Kd.R_lower ho15 (below_size zb)); have n1_ := zh (blk_below (g := gb132) (o := .cells #[.int .i64 a0_0, .int .i64 a0_1, .int .i64 a0_2, .slice (some ad133) l0_3.length c0_3] 24 (0, 0)) dWo2 hb); have n2_ := zh (blk_below (g := gb134) (o := .cells #[.int .i64 ((rd_T66 l0_3 a1).f0), .int .i64 ((rd_T66 l0_3 a1).f1), .int .i64 ((rd_T66 l0_3 a1).f2), .int .i64 ((rd_T66 l0_3 a1).f3)] 66 (0, 0)) dWo1 hb); have n3_ := zh (below_step zb hb); clear BK132; clear BK134; clear HB; have HO137 := n0_; have BK132 := n1_; have BK134 := n2_; have HB := n3_; clear n0_ n1_ n2_ n3_; clear hb ho15))
     go_meet
     case rel => exact ⟨_, (y135), H', ⟨zo1⟩, ⟨zR HO137⟩, ⟨zc BK132⟩, ⟨zc BK134⟩, ⟨zb⟩⟩
    ·rw [if_neg c13] at H
     have c13b0 : (((rd_T66 l0_3 a1).f0) == 0) = false := beq_eq_false_iff_ne.mpr c13
     have c13b1 : (((rd_T66 l0_3 a1).f0) != 0) = true := bne_iff_ne.mpr c13
     (first | rw [c13b0] | (simp only [i64_w, i32_w]; rw [c13b0]) | skip)
     by_cases c16 : ((rd_T66 l0_3 a1).f0) = 1
     ·rw [if_pos c16] at H
      have c16b0 : (((rd_T66 l0_3 a1).f0) == 1) = true := beq_iff_eq.mpr c16
      have c16b1 : (((rd_T66 l0_3 a1).f0) != 1) = false := bne_eq_false_iff_eq.mpr c16
      clear c16
      obtain ⟨y138, hy138⟩ : ∃ y_ : List Int, y_ = (([a2, a3] : List Int)) := ⟨_, rfl⟩
      replace H : (saronref06_bar.j0 k y138 a0_0 a0_1 a0_2 l0_3 ((rd_T66 l0_3 a1).f0) ((rd_T66 l0_3 a1).f1) ((rd_T66 l0_3 a1).f2) ((rd_T66 l0_3 a1).f3)) = some r := by first | (rw [hy138]; with_reducible exact H) | (have H2_ := (Option.bind_some _ _).symm.trans H; rw [hy138]; with_reducible exact H2_) | (have H2_ := (Option.bind_some _ _).symm.trans H; with_reducible exact H2_) | with_reducible exact H | (rw [hy138]; exact H) | exact H
      have Ny138 := zh hy138
      clear hy138
      have H' := zh H
      clear H
      go_wp2_with (first | ((with_reducible refine gate_dst (N := 38) rfl ?_); refine Kd.R_lit (Kd.int .i64) _ 3 ?hg (N := 38) ?hd (xs := ([a2, a3] : List Int)) (inner := [.int .i64 a2, .int .i64 a3]) (ok := fun _ => True) (okp := fun _ => True) ?hr ?hp (fun _ hk => hk) trivial (Below.refl _ _) (Nat.le_refl _) (by simp) ?_; (case hd => rfl); (case hg => rfl); (case hr => first | (go_simp; done) | (go_simp; rfl)); (case hp => exact (Reps.one (show Kd.M (Kd.int .i64) _ _ _ a2 [.int .i64 a2] from rfl) (Reps.one (show Kd.M (Kd.int .i64) _ _ _ a3 [.int .i64 a3] from rfl) (Reps.none _ _)))); intro v139 w17 ho18 hb hg_ hnew_; clear hg_ hnew_; (first | rw [← Ny138.out] at ho18 | (simp only [Int.reduceToNat] at ho18; rw [← Ny138.out] at ho18)); have n0_ := zh (Kd.R_lower ho18 (below_size zb)); have n1_ := zh (blk_below (g := gb132) (o := .cells #[.int .i64 a0_0, .int .i64 a0_1, .int .i64 a0_2, .slice (some ad133) l0_3.length c0_3] 24 (0, 0)) dWo2 hb); have n2_ := zh (blk_below (g := gb134) (o := .cells #[.int .i64 ((rd_T66 l0_3 a1).f0), .int .i64 ((rd_T66 l0_3 a1).f1), .int .i64 ((rd_T66 l0_3 a1).f2), .int .i64 ((rd_T66 l0_3 a1).f3)] 66 (0, 0)) dWo1 hb); have n3_ := zh (below_step zb hb); clear BK132; clear BK134; clear HB; have HO140 := n0_; have BK132 := n1_; have BK134 := n2_; have HB := n3_; clear n0_ n1_ n2_ n3_; clear hb ho18))
      go_meet
      case rel => exact ⟨_, (y138), H', ⟨zo1⟩, ⟨zR HO140⟩, ⟨zc BK132⟩, ⟨zc BK134⟩, ⟨zb⟩⟩
     ·rw [if_neg c16] at H
      have c16b0 : (((rd_T66 l0_3 a1).f0) == 1) = false := beq_eq_false_iff_ne.mpr c16
      have c16b1 : (((rd_T66 l0_3 a1).f0) != 1) = true := bne_iff_ne.mpr c16
      by_cases c19 : ((rd_T66 l0_3 a1).f0) = 2
      ·rw [if_pos c19] at H
       have c19b0 : (((rd_T66 l0_3 a1).f0) == 2) = true := beq_iff_eq.mpr c19
       have c19b1 : (((rd_T66 l0_3 a1).f0) != 2) = false := bne_eq_false_iff_eq.mpr c19
       clear c19
       obtain ⟨y141, hy141⟩ : ∃ y_ : List Int, y_ = (([a2, a2, a3, a3] : List Int)) := ⟨_, rfl⟩
       replace H : (saronref06_bar.j0 k y141 a0_0 a0_1 a0_2 l0_3 ((rd_T66 l0_3 a1).f0) ((rd_T66 l0_3 a1).f1) ((rd_T66 l0_3 a1).f2) ((rd_T66 l0_3 a1).f3)) = some r := by first | (rw [hy141]; with_reducible exact H) | (have H2_ := (Option.bind_some _ _).symm.trans H; rw [hy141]; with_reducible exact H2_) | (have H2_ := (Option.bind_some _ _).symm.trans H; with_reducible exact H2_) | with_reducible exact H | (rw [hy141]; exact H) | exact H
       have Ny141 := zh hy141
       clear hy141
       have H' := zh H
       clear H
       go_wp2_with (first | ((with_reducible refine gate_dst (N := 45) rfl ?_); refine Kd.R_lit (Kd.int .i64) _ 3 ?hg (N := 45) ?hd (xs := ([a2, a2, a3, a3] : List Int)) (inner := [.int .i64 a2, .int .i64 a2, .int .i64 a3, .int .i64 a3]) (ok := fun _ => True) (okp := fun _ => True) ?hr ?hp (fun _ hk => hk) trivial (Below.refl _ _) (Nat.le_refl _) (by simp) ?_; (case hd => rfl); (case hg => rfl); (case hr => first | (go_simp; done) | (go_simp; rfl)); (case hp => exact (Reps.one (show Kd.M (Kd.int .i64) _ _ _ a2 [.int .i64 a2] from rfl) (Reps.one (show Kd.M (Kd.int .i64) _ _ _ a2 [.int .i64 a2] from rfl) (Reps.one (show Kd.M (Kd.int .i64) _ _ _ a3 [.int .i64 a3] from rfl) (Reps.one (show Kd.M (Kd.int .i64) _ _ _ a3 [.int .i64 a3] from rfl) (Reps.none _ _)))))); intro v142 w20 ho21 hb hg_ hnew_; clear hg_ hnew_; (first | rw [← Ny141.out] at ho21 | (simp only [Int.reduceToNat] at ho21; rw [← Ny141.out] at ho21)); have n0_ := zh (Kd.R_lower ho21 (below_size zb)); have n1_ := zh (blk_below (g := gb132) (o := .cells #[.int .i64 a0_0, .int .i64 a0_1, .int .i64 a0_2, .slice (some ad133) l0_3.length c0_3] 24 (0, 0)) dWo2 hb); have n2_ := zh (blk_below (g := gb134) (o := .cells #[.int .i64 ((rd_T66 l0_3 a1).f0), .int .i64 ((rd_T66 l0_3 a1).f1), .int .i64 ((rd_T66 l0_3 a1).f2), .int .i64 ((rd_T66 l0_3 a1).f3)] 66 (0, 0)) dWo1 hb); have n3_ := zh (below_step zb hb); clear BK132; clear BK134; clear HB; have HO143 := n0_; have BK132 := n1_; have BK134 := n2_; have HB := n3_; clear n0_ n1_ n2_ n3_; clear hb ho21))
       go_meet
       case rel => exact ⟨_, (y141), H', ⟨zo1⟩, ⟨zR HO143⟩, ⟨zc BK132⟩, ⟨zc BK134⟩, ⟨zb⟩⟩
      ·rw [if_neg c19] at H
       have c19b0 : (((rd_T66 l0_3 a1).f0) == 2) = false := beq_eq_false_iff_ne.mpr c19
       have c19b1 : (((rd_T66 l0_3 a1).f0) != 2) = true := bne_iff_ne.mpr c19
       by_cases c22 : ((rd_T66 l0_3 a1).f0) = 3
       ·rw [if_pos c22] at H
        have c22b0 : (((rd_T66 l0_3 a1).f0) == 3) = true := beq_iff_eq.mpr c22
        have c22b1 : (((rd_T66 l0_3 a1).f0) != 3) = false := bne_eq_false_iff_eq.mpr c22
        clear c22
        obtain ⟨y144, hy144⟩ : ∃ y_ : List Int, y_ = (([a2, a3, a2, a3] : List Int)) := ⟨_, rfl⟩
        replace H : (saronref06_bar.j0 k y144 a0_0 a0_1 a0_2 l0_3 ((rd_T66 l0_3 a1).f0) ((rd_T66 l0_3 a1).f1) ((rd_T66 l0_3 a1).f2) ((rd_T66 l0_3 a1).f3)) = some r := by first | (rw [hy144]; with_reducible exact H) | (have H2_ := (Option.bind_some _ _).symm.trans H; rw [hy144]; with_reducible exact H2_) | (have H2_ := (Option.bind_some _ _).symm.trans H; with_reducible exact H2_) | with_reducible exact H | (rw [hy144]; exact H) | exact H
        have Ny144 := zh hy144
        clear hy144
        have H' := zh H
        clear H
        go_wp2_with (first | ((with_reducible refine gate_dst (N := 52) rfl ?_); refine Kd.R_lit (Kd.int .i64) _ 3 ?hg (N := 52) ?hd (xs := ([a2, a3, a2, a3] : List Int)) (inner := [.int .i64 a2, .int .i64 a3, .int .i64 a2, .int .i64 a3]) (ok := fun _ => True) (okp := fun _ => True) ?hr ?hp (fun _ hk => hk) trivial (Below.refl _ _) (Nat.le_refl _) (by simp) ?_; (case hd => rfl); (case hg => rfl); (case hr => first | (go_simp; done) | (go_simp; rfl)); (case hp => exact (Reps.one (show Kd.M (Kd.int .i64) _ _ _ a2 [.int .i64 a2] from rfl) (Reps.one (show Kd.M (Kd.int .i64) _ _ _ a3 [.int .i64 a3] from rfl) (Reps.one (show Kd.M (Kd.int .i64) _ _ _ a2 [.int .i64 a2] from rfl) (Reps.one (show Kd.M (Kd.int .i64) _ _ _ a3 [.int .i64 a3] from rfl) (Reps.none _ _)))))); intro v145 w23 ho24 hb hg_ hnew_; clear hg_ hnew_; (first | rw [← Ny144.out] at ho24 | (simp only [Int.reduceToNat] at ho24; rw [← Ny144.out] at ho24)); have n0_ := zh (Kd.R_lower ho24 (below_size zb)); have n1_ := zh (blk_below (g := gb132) (o := .cells #[.int .i64 a0_0, .int .i64 a0_1, .int .i64 a0_2, .slice (some ad133) l0_3.length c0_3] 24 (0, 0)) dWo2 hb); have n2_ := zh (blk_below (g := gb134) (o := .cells #[.int .i64 ((rd_T66 l0_3 a1).f0), .int .i64 ((rd_T66 l0_3 a1).f1), .int .i64 ((rd_T66 l0_3 a1).f2), .int .i64 ((rd_T66 l0_3 a1).f3)] 66 (0, 0)) dWo1 hb); have n3_ := zh (below_step zb hb); clear BK132; clear BK134; clear HB; have HO146 := n0_; have BK132 := n1_; have BK134 := n2_; have HB := n3_; clear n0_ n1_ n2_ n3_; clear hb ho24))
        go_meet
        case rel => exact ⟨_, (y144), H', ⟨zo1⟩, ⟨zR HO146⟩, ⟨zc BK132⟩, ⟨zc BK134⟩, ⟨zb⟩⟩
       ·rw [if_neg c22] at H
        have c22b0 : (((rd_T66 l0_3 a1).f0) == 3) = false := beq_eq_false_iff_ne.mpr c22
        have c22b1 : (((rd_T66 l0_3 a1).f0) != 3) = true := bne_iff_ne.mpr c22
        obtain ⟨y147, hy147⟩ : ∃ y_ : List Int, y_ = (([wrap64 (a2 + ((rd_T66 l0_3 a1).f3)), a2, wrap64 (a3 + ((rd_T66 l0_3 a1).f3)), a3] : List Int)) := ⟨_, rfl⟩
        replace H : (saronref06_bar.j0 k y147 a0_0 a0_1 a0_2 l0_3 ((rd_T66 l0_3 a1).f0) ((rd_T66 l0_3 a1).f1) ((rd_T66 l0_3 a1).f2) ((rd_T66 l0_3 a1).f3)) = some r := by first | (rw [hy147]; with_reducible exact H) | (have H2_ := (Option.bind_some _ _).symm.trans H; rw [hy147]; with_reducible exact H2_) | (have H2_ := (Option.bind_some _ _).symm.trans H; with_reducible exact H2_) | with_reducible exact H | (rw [hy147]; exact H) | exact H
        have Ny147 := zh hy147
        clear hy147
        have H' := zh H
        clear H
        have hnb25 := NB134_132.out
        have hnc25 := NB132_134.out
        have hcz26_0 : w10.cell? ⟨gb134, 0, none⟩ = some (.int .i64 0) := vb BK134 0
        have hcz26_1 : w10.cell? ⟨gb134, 1, none⟩ = some (.int .i64 0) := vb BK134 1
        have hcz26_2 : w10.cell? ⟨gb134, 2, none⟩ = some (.int .i64 0) := vb BK134 2
        have hcz26_3 : w10.cell? ⟨gb134, 3, none⟩ = some (.int .i64 0) := vb BK134 3
        have hfz26_0 := blk_frozen BK134.out 0
        have hfz26_1 := blk_frozen BK134.out 1
        have hfz26_2 := blk_frozen BK134.out 2
        have hfz26_3 := blk_frozen BK134.out 3
        go_wp2_with (first | ((with_reducible refine gate_dst (N := 29) rfl ?_); refine Kd.R_lit (Kd.int .i64) _ 3 ?hg (N := 29) ?hd (xs := ([wrap64 (a2 + ((rd_T66 l0_3 a1).f3)), a2, wrap64 (a3 + ((rd_T66 l0_3 a1).f3)), a3] : List Int)) (inner := [.int .i64 (wrap64 (a2 + ((rd_T66 l0_3 a1).f3))), .int .i64 a2, .int .i64 (wrap64 (a3 + ((rd_T66 l0_3 a1).f3))), .int .i64 a3]) (ok := fun _ => True) (okp := fun _ => True) ?hr ?hp (fun _ hk => hk) trivial (Below.refl _ _) (Nat.le_refl _) (by simp) ?_; (case hd => rfl); (case hg => rfl); (case hr => first | (go_simp; done) | (go_simp; rfl)); (case hp => exact (Reps.one (show Kd.M (Kd.int .i64) _ _ _ (wrap64 (a2 + ((rd_T66 l0_3 a1).f3))) [.int .i64 (wrap64 (a2 + ((rd_T66 l0_3 a1).f3)))] from rfl) (Reps.one (show Kd.M (Kd.int .i64) _ _ _ a2 [.int .i64 a2] from rfl) (Reps.one (show Kd.M (Kd.int .i64) _ _ _ (wrap64 (a3 + ((rd_T66 l0_3 a1).f3))) [.int .i64 (wrap64 (a3 + ((rd_T66 l0_3 a1).f3)))] from rfl) (Reps.one (show Kd.M (Kd.int .i64) _ _ _ a3 [.int .i64 a3] from rfl) (Reps.none _ _)))))); intro v148 w27 ho28 hb hg_ hnew_; clear hg_ hnew_; (first | rw [← Ny147.out] at ho28 | (simp only [Int.reduceToNat] at ho28; rw [← Ny147.out] at ho28)); have n0_ := zh (Kd.R_lower ho28 (below_size zb)); have n1_ := zh (blk_below (g := gb132) (o := .cells #[.int .i64 a0_0, .int .i64 a0_1, .int .i64 a0_2, .slice (some ad133) l0_3.length c0_3] 24 (0, 0)) dWo2 hb); have n2_ := zh (blk_below (g := gb134) (o := .cells #[.int .i64 ((rd_T66 l0_3 a1).f0), .int .i64 ((rd_T66 l0_3 a1).f1), .int .i64 ((rd_T66 l0_3 a1).f2), .int .i64 ((rd_T66 l0_3 a1).f3)] 66 (0, 0)) dWo1 hb); have n3_ := zh (below_step zb hb); clear BK132; clear BK134; clear HB; have HO149 := n0_; have BK132 := n1_; have BK134 := n2_; have HB := n3_; clear n0_ n1_ n2_ n3_; clear hb ho28))
        go_meet
        case rel => exact ⟨_, (y147), H', ⟨zo1⟩, ⟨zR HO149⟩, ⟨zc BK132⟩, ⟨zc BK134⟩, ⟨zb⟩⟩
   case rest =>
    clear HC7
    try clear c1
    try clear p1
    try clear q1
    try clear hx1
    try clear c2
    try clear p2
    try clear c5
    try clear c5b0
    try clear c6
    try clear c6b0
    try clear p6
    try clear c8
    try clear c11
    try clear c13
    try clear c13b0
    try clear c13b1
    try clear p13
    try clear q13
    try clear hx13
    try clear c16
    try clear c16b0
    try clear c16b1
    try clear c19
    try clear c19b0
    try clear c19b1
    try clear c22
    try clear c22b0
    try clear c22b1
    try clear c25
    try clear hcz12_0
    try clear hcz12_1
    try clear hcz12_2
    try clear hcz12_3
    try clear hcz26_0
    try clear hcz26_1
    try clear hcz26_2
    try clear hcz26_3
    try clear hcz9_0
    try clear hcz9_1
    try clear hcz9_2
    try clear hcz9_3
    try clear hfz12_0
    try clear hfz12_1
    try clear hfz12_2
    try clear hfz12_3
    try clear hfz26_0
    try clear hfz26_1
    try clear hfz26_2
    try clear hfz26_3
    try clear hfz9_0
    try clear hfz9_1
    try clear hfz9_2
    try clear hfz9_3
    try clear hx133_0
    try clear hx133_1
    try clear hx133_2
    try clear hx133_3
    try clear p133
    try clear q133
    obtain ⟨kq, x10_6, HA, HJ6, HO_10, BK132, BK134, HB⟩ := hcut
    cases kq with
    | zero => exact absurd HA.out (by simp [saronref06_bar.j0])
    | succ kj6 =>
     have H := HA.out
     clear HA
     simp only [saronref06_bar.j0] at H
     have H' := zh H
     clear H
     go_wp2
     go_loopg [11] kj6 (fun kq v11 w' => ∃ (x10_2 : List Int) (x11_2 : Int), v11 = .int .i64 x11_2 ∧ Aside0 (saronref06_bar.l0 kq x10_2 x11_2 a0_0 a0_1 a0_2 l0_3 ((rd_T66 l0_3 a1).f0) ((rd_T66 l0_3 a1).f1) ((rd_T66 l0_3 a1).f2) ((rd_T66 l0_3 a1).f3) = some r) ∧ Aside0 (kq ≤ kj6) ∧ Aside0 (Kd.R (Kd.int .i64) 3 w' w.heap.size (fun _ => True) u10 x10_2) ∧ Aside0 (w'.heap[gb132]? = some (.cells #[.int .i64 a0_0, .int .i64 a0_1, .int .i64 a0_2, (.slice (some ad133) l0_3.length c0_3)] 24 (0, 0))) ∧ Aside0 (w'.heap[gb134]? = some (.cells #[.int .i64 ((rd_T66 l0_3 a1).f0), .int .i64 ((rd_T66 l0_3 a1).f1), .int .i64 ((rd_T66 l0_3 a1).f2), .int .i64 ((rd_T66 l0_3 a1).f3)] 66 (0, 0))) ∧ Aside0 (Below w.heap.size w w'))
     case atStart => exact ⟨(x10_6), (0), ze, H', ⟨Nat.le_refl _⟩, ⟨zR HO_10⟩, ⟨zc BK132⟩, ⟨zc BK134⟩, ⟨zb⟩⟩
     case round =>
      clear H'
      try clear c1
      try clear p1
      try clear q1
      try clear hx1
      try clear c2
      try clear p2
      try clear c5
      try clear c5b0
      try clear c6
      try clear c6b0
      try clear p6
      try clear c8
      try clear c11
      try clear c13
      try clear c13b0
      try clear c13b1
      try clear p13
      try clear q13
      try clear hx13
      try clear c16
      try clear c16b0
      try clear c16b1
      try clear c19
      try clear c19b0
      try clear c19b1
      try clear c22
      try clear c22b0
      try clear c22b1
      try clear c25
      try clear hcz12_0
      try clear hcz12_1
      try clear hcz12_2
      try clear hcz12_3
      try clear hcz26_0
      try clear hcz26_1
      try clear hcz26_2
      try clear hcz26_3
      try clear hcz9_0
      try clear hcz9_1
      try clear hcz9_2
      try clear hcz9_3
      try clear hfz12_0
      try clear hfz12_1
      try clear hfz12_2
      try clear hfz12_3
      try clear hfz26_0
      try clear hfz26_1
      try clear hfz26_2
      try clear hfz26_3
      try clear hfz9_0
      try clear hfz9_1
      try clear hfz9_2
      try clear hfz9_3
      try clear hx133_0
      try clear hx133_1
      try clear hx133_2
      try clear hx133_3
      try clear p1
      try clear p13
      try clear p133
      try clear p2
      try clear p6
      try clear q1
      try clear q13
      try clear q133
      obtain ⟨x10_2, x11_2, rfl, HA, HK2, HO_10, BK132, BK134, HB⟩ := hrel
      cases gk with
      | zero => exact absurd HA.out (by simp [saronref06_bar.l0])
      | succ k2 =>
       have H := HA.out
       clear HA
       simp only [saronref06_bar.l0] at H
       by_cases c29 : x11_2 < (x10_2.length : Int)
       ·rw [if_pos c29] at H
        have c29b0 : decide (x11_2 < (x10_2.length : Int)) = true := decide_eq_true c29
        clear c29
        by_cases c30 : 0 ≤ x11_2
        ·rw [if_pos c30] at H
         have c30b0 : decide (0 ≤ x11_2) = true := decide_eq_true c30
         clear c30
         replace H := Option.bind_eq_some_iff.mp H
         obtain ⟨t151, A310, H⟩ := H
         replace H : (saronref06_bar.l0 k2 (x10_2.set (x11_2 : Int).toNat t151) (wrap64 (x11_2 + 1)) a0_0 a0_1 a0_2 l0_3 ((rd_T66 l0_3 a1).f0) ((rd_T66 l0_3 a1).f1) ((rd_T66 l0_3 a1).f2) ((rd_T66 l0_3 a1).f3)) = some r := H
         have A31 := zh A310
         clear A310
         obtain ⟨y152, hy152⟩ : ∃ y_ : List Int, y_ = (x10_2.set (x11_2 : Int).toNat t151) := ⟨_, rfl⟩
         replace H : (saronref06_bar.l0 k2 y152 (wrap64 (x11_2 + 1)) a0_0 a0_1 a0_2 l0_3 ((rd_T66 l0_3 a1).f0) ((rd_T66 l0_3 a1).f1) ((rd_T66 l0_3 a1).f2) ((rd_T66 l0_3 a1).f3)) = some r := by first | (rw [hy152]; with_reducible exact H) | (have H2_ := (Option.bind_some _ _).symm.trans H; rw [hy152]; with_reducible exact H2_) | (have H2_ := (Option.bind_some _ _).symm.trans H; with_reducible exact H2_) | with_reducible exact H | (rw [hy152]; exact H) | exact H
         have Ny152 := zh hy152
         clear hy152
         have H' := zh H
         clear H
         obtain ⟨Ao33, co33, eo33⟩ := Kd.R_slice HO_10.out
         subst eo33
         try go_wp2
         replace HO_10 := zh (Kd.R_drew HO_10.out)
         replace BK132 := zh (blk_drew BK132.out)
         replace BK134 := zh (blk_drew BK134.out)
         replace HB := zh (below_drew1 HB.out)
         have p150 : 0 ≤ (x11_2 : Int) := of_decide_eq_true zs
         have q150 : x11_2 < (x10_2.length : Int) := of_decide_eq_true zs
         obtain ⟨ad150, e150, hx150_0⟩ := Kd.at_int (Kd.R_reads' HO_10.out).2.2 x11_2 p150 q150
         cases e150
         replace p150 := eq_true p150
         replace q150 := eq_true q150
         refine start_ (n := 11) (S := fun w' => w'.cell? ⟨gb132, 0, none⟩ = some (.int .i64 a0_0) ∧ w'.cell? ⟨gb132, 1, none⟩ = some (.int .i64 a0_1) ∧ w'.cell? ⟨gb132, 2, none⟩ = some (.int .i64 a0_2) ∧ w'.cell? ⟨gb132, 3, none⟩ = some (.slice (some ad133) l0_3.length c0_3) ∧ w'.cell? ⟨gb134, 0, none⟩ = some (.int .i64 ((rd_T66 l0_3 a1).f0)) ∧ w'.cell? ⟨gb134, 1, none⟩ = some (.int .i64 ((rd_T66 l0_3 a1).f1)) ∧ w'.cell? ⟨gb134, 2, none⟩ = some (.int .i64 ((rd_T66 l0_3 a1).f2)) ∧ w'.cell? ⟨gb134, 3, none⟩ = some (.int .i64 ((rd_T66 l0_3 a1).f3)) ∧ w'.cell? (ad150.add (x11_2).toNat) = some (.int .i64 (rd x10_2 x11_2))) (ds := [10]) #[false, false, false, false, false, false, false, false, false, false, false] zk rfl rfl ⟨vb BK132 0, vb BK132 1, vb BK132 2, vb BK132 3, vb BK134 0, vb BK134 1, vb BK134 2, vb BK134 3, hx150_0⟩ (fun hHeld => ?_); refine with_tabW saronref06_bar.tab16 saronref06_bar.bits16 (fun HT_ HW_ => ?_)
         generalize wr.drew = w34 at HO_10 BK132 BK134 HB hx150_0 hHeld ⊢
         refine zu 0 ?_
         refine zu 1 ?_
         refine zu 4 ?_
         refine zu 5 ?_
         refine zu 6 ?_
         refine zt 2 ?_
         refine zt 3 ?_
         refine zt 7 ?_
         refine zo 8 (fun K hK => ?_)
         refine goes_ Tryd.func90 zk rfl #[.agg #[.int .i64 a0_0, .int .i64 a0_1, .int .i64 a0_2, .slice (some ad133) l0_3.length c0_3], .agg #[.int .i64 ((rd_T66 l0_3 a1).f0), .int .i64 ((rd_T66 l0_3 a1).f1), .int .i64 ((rd_T66 l0_3 a1).f2), .int .i64 ((rd_T66 l0_3 a1).f3)], .int .i64 (rd x10_2 x11_2)] (by rfl) rfl rfl zm ?_
         with_reducible refine (saronref06_plays.calls k2 a0_0 a0_1 a0_2 _ _ l0_3 ((rd_T66 l0_3 a1).f0) ((rd_T66 l0_3 a1).f1) ((rd_T66 l0_3 a1).f2) ((rd_T66 l0_3 a1).f3) (rd x10_2 x11_2) t151 _ ?side1 ?side2 A31.out).mono ?_
         (case side1 => repeat (first | exact (Kd.C_below HR0_3.out HB.out) | (with_reducible refine Kd.C_alloc ?_ _) | (with_reducible refine Kd.C_drewN ?_ _) | (with_reducible refine Kd.C_drew ?_)))
         (case side2 => exact HC0_3.out)
         rintro e w35 ⟨rfl, hb⟩
         have HS8_ := (hb.cell (World.block_lt_of_cell? _ _ (hHeld.2.2.2.2.2.2.2.2))).trans (hHeld.2.2.2.2.2.2.2.2)
         refine ⟨_, rfl, ?_⟩
         replace HO_10 := zh (Kd.R_below (zR HO_10) hb)
         replace BK132 := zh (blk_below (g := gb132) (o := .cells #[.int .i64 a0_0, .int .i64 a0_1, .int .i64 a0_2, .slice (some ad133) l0_3.length c0_3] 24 (0, 0)) (zc BK132) hb)
         replace BK134 := zh (blk_below (g := gb134) (o := .cells #[.int .i64 ((rd_T66 l0_3 a1).f0), .int .i64 ((rd_T66 l0_3 a1).f1), .int .i64 ((rd_T66 l0_3 a1).f2), .int .i64 ((rd_T66 l0_3 a1).f3)] 66 (0, 0)) (zc BK134) hb)
         replace HB := zh (below_step zb hb)
         (try clear hb)
         (try clear hb2)
         (try clear hk)
         (try clear hi)
         have p32 : 0 ≤ (x11_2 : Int) := of_decide_eq_true zs
         have q32 : (x11_2 : Int) < ((x10_2.length : Int) : Int) := of_decide_eq_true zs
         obtain ⟨go32, co32, eo32, gb32, gl32, cl32, HG32⟩ := Kd.R_form HO_10.out (by omega)
         (first | cases eo32 | (injection eo32 with ea_ en_ ec_; (first | subst ea_ | (injection ea_ with ea_; subst ea_)); subst ec_; clear en_))
         have GB32 := zh gb32
         have GG32 := zh HG32
         clear gb32 gl32 HG32
         (first | simp only [add_plain] at hx150_0 | skip)
         obtain ⟨hx32_0, hf32_0⟩ := Kd.R_celln 0 HO_10.out (x11_2 : Int) p32 q32
         replace p32 := eq_true p32
         replace q32 := eq_true q32
         have HP36 := Kd.R_putn HO_10.out (x11_2 : Int) t151
         rw [← Ny152.out] at HP36
         have HQ36 := zh HP36
         clear HP36
         refine hK.out _ _ ⟨vb BK132 0, vb BK132 1, vb BK132 2, vb BK132 3, vb BK134 0, vb BK134 1, vb BK134 2, vb BK134 3, HS8_⟩ (fun hHeld => ?_)
         clear hK K
         refine zr 67 _ ?_
         refine zu 9 ?_
         refine zq 10 (fun K hK => ?_)
         refine skip_ (w1 := ?_) (by rfl) rfl ?_ ?_
         rotate_left
         ·go_simp
          rfl
         refine hK.out _ _ ?_
         clear hK K
         refine zd ?_
         try go_wp2
         go_roundg k2
         case measure => have := HJ6.out; have := HK2.out; omega
         case rel => exact ⟨(y152), (wrap64 (x11_2 + 1)), ze, H', ⟨zw HJ6 HK2⟩, ⟨by (with_reducible repeat (first | apply Kd.R_alloc | apply Kd.R_drewN | apply Kd.R_drew)); exact HQ36.out⟩, ⟨by (with_reducible repeat (first | refine blk_drewN ?_ _ | refine blk_drew ?_ | refine blk_alloc ?_ _)); refine blk_far ?_ (by have h_ := Kd.R_ne HO_10.out BK132.out (by decide); intro e_; exact h_ (by rw [e_]; rfl)) _; (with_reducible repeat (first | refine blk_drewN ?_ _ | refine blk_drew ?_ | refine blk_alloc ?_ _)); exact BK132.out⟩, ⟨by (with_reducible repeat (first | refine blk_drewN ?_ _ | refine blk_drew ?_ | refine blk_alloc ?_ _)); refine blk_far ?_ (by have h_ := Kd.R_ne HO_10.out BK134.out (by decide); intro e_; exact h_ (by rw [e_]; rfl)) _; (with_reducible repeat (first | refine blk_drewN ?_ _ | refine blk_drew ?_ | refine blk_alloc ?_ _)); exact BK134.out⟩, ⟨zb⟩⟩
        ·rw [if_neg c30] at H
         exact absurd H (by simp)
       ·rw [if_neg c29] at H
        have c29b0 : decide (x11_2 < (x10_2.length : Int)) = false := decide_eq_false c29
        clear c29
        obtain rfl := Option.some.inj H
        obtain ⟨Ao37, co37, eo37⟩ := Kd.R_slice HO_10.out
        subst eo37
        go_wp2
        go_ret
        exact ⟨_, zf, (zR HO_10), zb⟩
  ·rw [if_neg c6] at H
   exact absurd H (by simp)
 ·rw [if_neg c5] at H
  exact absurd H (by simp)
end Go.Proofs.YtagkfkdoibnhfaaDoor.H
end
section
namespace Go.Proofs.YtagkfkdoibnhfaaDoor.H
open Go.RowKit Go.Proofs.YtagkfkdoibnhfaaDoorW.PrintWords Go.Proofs.YtagkfkdoibnhfaaDoorW.PrintLast Go.Proofs.YtagkfkdoibnhfaaDoorW.PrintMore
attribute [local go_sem] max2_int min2_int max_two min_two max_three min_three max_four min_four   -- for this text's walks alone
set_option linter.unusedVariables false
set_option linter.unusedSimpArgs false
end Go.Proofs.YtagkfkdoibnhfaaDoor.H
end
section
namespace Go.Proofs.YtagkfkdoibnhfaaDoor.H
open Go.RowKit Go.Proofs.YtagkfkdoibnhfaaDoorW.PrintWords Go.Proofs.YtagkfkdoibnhfaaDoorW.PrintLast Go.Proofs.YtagkfkdoibnhfaaDoorW.PrintMore
attribute [local go_sem] max2_int min2_int max_two min_two max_three min_three max_four min_four   -- for this text's walks alone
set_option linter.unusedVariables false
set_option linter.unusedSimpArgs false
end Go.Proofs.YtagkfkdoibnhfaaDoor.H
end
section
namespace Go.Proofs.YtagkfkdoibnhfaaDoor.K
open Go.RowKit Go.Proofs.YtagkfkdoibnhfaaDoorW.PrintWords Go.Proofs.YtagkfkdoibnhfaaDoor.H
theorem turn_f (a b : Int) (hb : 1 ≤ b) (hb' : b ≤ 1000) : saronref00_Turn.f a b = some (a % b) := by
 unfold saronref00_Turn.f
 rw [if_neg (by omega), if_neg (by omega)]
 have h := Int.tmod_eq_emod (a := a) (b := b)
 have h1 := Int.emod_nonneg a (by omega : b ≠ 0)
 have h2 := Int.emod_lt_of_pos a (by omega : 0 < b)
 have hn : (b.natAbs : Int) = b := by omega
 split at h
 ·rw [if_neg (by omega), h]; simp
 ·rw [if_pos (by omega), w64 (by omega) (by omega)]
  congr 1
  omega
theorem rplays_l0 (T O L n hi x0 x1 x3 : Int) (R : List S66) (hT : 2 ≤ T) (hT' : T ≤ 7) (hn : -1000 ≤ n) (hn' : n ≤ 1000) (hh : hi ≤ 1000) :
  ∀ (d k : Nat) (t : Int), (hi + 1 - t).toNat = d → -1000 ≤ t → d + 1 ≤ k → saronref06_plays.l0 k n t T O L R x0 x1 hi x3 = some (hit T n hi t)
 | 0, k, t, hd, ht, hk => by
  obtain ⟨k, rfl⟩ : ∃ m, k = m + 1 := ⟨k - 1, by omega⟩
  simp only [saronref06_plays.l0]
  rw [if_neg (by omega)]
  unfold hit
  rw [irange_nil (by omega)]
  rfl
 | d + 1, k, t, hd, ht, hk => by
  obtain ⟨k, rfl⟩ : ∃ m, k = m + 1 := ⟨k - 1, by omega⟩
  simp only [saronref06_plays.l0]
  rw [if_pos (by omega), w64 (by omega) (by omega), turn_f _ _ (by omega) (by omega), Option.bind_some]
  by_cases hz : (t - n) % T = 0
  ·rw [if_pos hz, hit_yes (by omega) ((tmod_zero _ _).2 hz)]
  ·rw [if_neg hz, w64 (by omega) (by omega), rplays_l0 T O L n hi x0 x1 x3 R hT hT' hn hn' hh d k (t + 1) (by omega) (by omega) (by omega), hit_no (by omega) (fun e => hz ((tmod_zero _ _).1 e))]
theorem rplays_f (T O L n : Int) (R : List S66) (x : S66) (hT : 2 ≤ T) (hT' : T ≤ 7) (hx : RegOk x) (hn : -1000 ≤ n) (hn' : n ≤ 1000) (k : Nat) (hk : 110 ≤ k) :
  saronref06_plays.f k T O L R x.f0 x.f1 x.f2 x.f3 n = some (plays T x n) := by
 obtain ⟨q1, q2, q3, q4, q5, q6, q7⟩ := hx
 unfold saronref06_plays.f
 rw [sits_f, Option.bind_some]
 by_cases h : x.f1 ≤ n ∧ n ≤ x.f2
 ·rw [if_pos (by simp [h]), plays_in h]
 ·rw [if_neg (by simpa using h), rplays_l0 T O L n x.f2 x.f0 x.f1 x.f3 R hT hT' hn hn' (by omega) _ k x.f1 rfl (by omega) (by omega), plays_hit h]
theorem rbar_l0 (T O L : Int) (R : List S66) (x : S66) (hT : 2 ≤ T) (hT' : T ≤ 7) (hx : RegOk x) (l : List Int) (hl : l.length ≤ 1000) (hb : ∀ n ∈ l, -1000 ≤ n ∧ n ≤ 1000) :
  ∀ (d k i : Nat), l.length - i = d → i ≤ l.length → d + 111 ≤ k →
   saronref06_bar.l0 k ((l.take i).map (plays T x) ++ l.drop i) (i : Int) T O L R x.f0 x.f1 x.f2 x.f3 = some (l.map (plays T x))
 | 0, k, i, hd, hi, hk => by
  obtain ⟨k, rfl⟩ : ∃ m, k = m + 1 := ⟨k - 1, by omega⟩
  obtain rfl : i = l.length := by omega
  simp only [saronref06_bar.l0]
  rw [if_neg (by simp)]
  simp
 | d + 1, k, i, hd, hi, hk => by
  obtain ⟨k, rfl⟩ : ∃ m, k = m + 1 := ⟨k - 1, by omega⟩
  have hlt : i < l.length := by omega
  have hlen : ((l.take i).map (plays T x) ++ l.drop i).length = l.length := by simp; omega
  have hrd : rd ((l.take i).map (plays T x) ++ l.drop i) (i : Int) = l[i] := by
   unfold rd
   have hl' : ((l.take i).map (plays T x)).length = i := by simp; omega
   rw [Int.toNat_natCast, List.getD_eq_getElem?_getD, List.getElem?_append_right (by omega), hl', Nat.sub_self, List.drop_eq_getElem_cons hlt]
   rfl
  have hset : ((l.take i).map (plays T x) ++ l.drop i).set (i : Int).toNat (plays T x l[i]) = (l.take (i + 1)).map (plays T x) ++ l.drop (i + 1) := by
   rw [Int.toNat_natCast, List.set_append_right _ _ (by simp; omega), List.drop_eq_getElem_cons hlt, List.take_succ_eq_append_getElem hlt]
   rw [show i - (List.map (plays T x) (l.take i)).length = 0 from by simp; omega, List.set_cons_zero, List.map_append, List.append_assoc]
   rfl
  simp only [saronref06_bar.l0]
  have e : wrap64 ((i : Int) + 1) = ((i + 1 : Nat) : Int) := by rw [w64 (by omega) (by omega)]; simp
  have hm := hb l[i] (List.getElem_mem hlt)
  rw [if_pos (by rw [hlen]; omega), if_pos (by omega), hrd, rplays_f T O L l[i] R x hT hT' hx hm.1 hm.2 k (by omega), Option.bind_some, hset, e]
  exact rbar_l0 T O L R x hT hT' hx l hl hb d k (i + 1) (by omega) (by omega) (by omega)
theorem rbar_j0 (T O L : Int) (R : List S66) (x : S66) (hT : 2 ≤ T) (hT' : T ≤ 7) (hx : RegOk x) (l : List Int) (hl : l.length ≤ 4) (hb : ∀ n ∈ l, -1000 ≤ n ∧ n ≤ 1000) (k : Nat) (hk : 140 ≤ k) :
  saronref06_bar.j0 k l T O L R x.f0 x.f1 x.f2 x.f3 = some (l.map (plays T x)) := by
 obtain ⟨k, rfl⟩ : ∃ m, k = m + 1 := ⟨k - 1, by omega⟩
 have h := rbar_l0 T O L R x hT hT' hx l (by omega) hb l.length k 0 (by omega) (by omega) (by omega)
 simp only [List.take_zero, List.map_nil, List.drop_zero, List.nil_append] at h
 simp only [saronref06_bar.j0]
 exact h
theorem rbar_f (T O L : Int) (R : List S66) (r a b : Int) (hT : 2 ≤ T) (hT' : T ≤ 7) (h0 : 0 ≤ r) (h1 : r < R.length) (hx : RegOk (regAt R r)) (ha : 0 ≤ a) (ha' : a ≤ 100) (hb0 : 0 ≤ b) (hb1 : b ≤ 100) (k : Nat) (hk : 140 ≤ k) :
  saronref06_bar.f k T O L R r a b = some (strokes T R r a b) := by
 obtain ⟨i, rfl⟩ : ∃ i : Nat, r = i := ⟨r.toNat, by omega⟩
 have hi : i < R.length := by omega
 have e : regAt R (i : Int) = R[i] := by unfold regAt; simp [hi]
 have hx' : RegOk R[i] := e ▸ hx
 obtain ⟨q1, q2, q3, q4, q5, q6, q7⟩ := hx'
 unfold saronref06_bar.f strokes
 rw [if_pos h0, if_pos h1, rd66 R i hi, e, w64 (by omega) (by omega), w64 (by omega) (by omega)]
 have J := fun l hl hb => rbar_j0 T O L R R[i] hT hT' ⟨q1, q2, q3, q4, q5, q6, q7⟩ l hl hb k hk
 unfold bar
 split
 ·exact J _ (by simp) (by simp; omega)
 split
 ·exact J _ (by simp) (by simp; omega)
 split
 ·exact J _ (by simp) (by simp; omega)
 split
 ·exact J _ (by simp) (by simp; omega)
 ·exact J _ (by simp) (by simp; omega)
end Go.Proofs.YtagkfkdoibnhfaaDoor.K
end
section
namespace Go.Proofs.YtagkfkdoibnhfaaDoor.K
open Go.RowKit Go.Proofs.YtagkfkdoibnhfaaDoorW.PrintWords Go.Proofs.YtagkfkdoibnhfaaDoor.H
theorem rd_nat (l : List Int) (i : Nat) (h : i < l.length) : rd l (i : Int) = l[i] := by
 unfold rd
 simp [h]
end Go.Proofs.YtagkfkdoibnhfaaDoor.K
end
section
namespace Go.Proofs.YtagkfkdoibnhfaaDoor.H
open Go.RowKit Go.Proofs.YtagkfkdoibnhfaaDoorW.PrintWords Go.Proofs.YtagkfkdoibnhfaaDoorW.PrintLast Go.Proofs.YtagkfkdoibnhfaaDoorW.PrintMore
attribute [local go_sem] max2_int min2_int max_two min_two max_three min_three max_four min_four   -- for this text's walks alone
set_option linter.unusedVariables false
set_option linter.unusedSimpArgs false
open Go.Proofs.YtagkfkdoibnhfaaDoor.K
end Go.Proofs.YtagkfkdoibnhfaaDoor.H
end
section
namespace Go.Proofs.YtagkfkdoibnhfaaDoor.K
open Go.RowKit Go.Proofs.YtagkfkdoibnhfaaDoorW.PrintWords Go.Proofs.YtagkfkdoibnhfaaDoor.H
theorem equal_l0 (l : List Int) (hl : l.length ≤ 9223372036854775807) : ∀ (d k i : Nat), l.length - i = d → i ≤ l.length → d + 1 ≤ k → saronref00_Equal.l0 k l l true (i : Int) = some true
 | 0, k, i, hd, hi, hk => by
  obtain ⟨k, rfl⟩ : ∃ m, k = m + 1 := ⟨k - 1, by omega⟩
  simp only [saronref00_Equal.l0, if_true]
  rw [if_neg (by omega)]
 | d + 1, k, i, hd, hi, hk => by
  obtain ⟨k, rfl⟩ : ∃ m, k = m + 1 := ⟨k - 1, by omega⟩
  have e : wrap64 ((i : Int) + 1) = ((i + 1 : Nat) : Int) := by rw [w64 (by omega) (by omega)]; simp
  simp only [saronref00_Equal.l0, if_true]
  rw [if_pos (by omega), if_pos (by omega), if_pos (by omega), e, beq_self_eq_true]
  exact equal_l0 l hl d k (i + 1) (by omega) (by omega) (by omega)
theorem equal_self (l : List Int) (hl : l.length ≤ 9223372036854775807) (k : Nat) (hk : l.length + 1 ≤ k) : saronref00_Equal.f k l l = some true := by
 unfold saronref00_Equal.f
 rw [beq_self_eq_true]
 exact equal_l0 l hl l.length k 0 rfl (by omega) (by omega)
end Go.Proofs.YtagkfkdoibnhfaaDoor.K
end
section
namespace Go.Proofs.YtagkfkdoibnhfaaDoor.H
open Go.RowKit Go.Proofs.YtagkfkdoibnhfaaDoorW.PrintWords Go.Proofs.YtagkfkdoibnhfaaDoorW.PrintLast Go.Proofs.YtagkfkdoibnhfaaDoorW.PrintMore
attribute [local go_sem] max2_int min2_int max_two min_two max_three min_three max_four min_four   -- for this text's walks alone
set_option linter.unusedVariables false
set_option linter.unusedSimpArgs false
mutual
def saronref06_otherwise.l0 : Nat → List (S60) → Int → Int → Int → Int → Int → Int → Int → Int → List (S66) → Option (Int)
 | 0, _, _, _, _, _, _, _, _, _, _ => none
 | k + 1, x1, x2, x3, x4, x11, x12, x251000, x251001, x251002, x251003 => if x12 < (x1.length : Int) then (if 0 ≤ x12 then ((saronref06_bar.f k x251000 x251001 x251002 x251003 ((rd_T60 x1 x12).f0) x3 x4).bind fun t252 => (saronref06_otherwise.l1 k x1 x2 x3 x4 x11 x12 t252 0 x251000 x251001 x251002 x251003)) else (none)) else (some x11)
def saronref06_otherwise.l1 : Nat → List (S60) → Int → Int → Int → Int → Int → List Int → Int → Int → Int → Int → List (S66) → Option (Int)
 | 0, _, _, _, _, _, _, _, _, _, _, _, _ => none
 | k + 1, x1, x2, x3, x4, x11, x12, x13, x14, x251000, x251001, x251002, x251003 => if x14 < (x13.length : Int) then (if 0 ≤ x12 then (if x12 < (x1.length : Int) then (if 0 ≤ (wrap64 ((wrap64 (x2 * (x13.length : Int))) + x14)) then (if (wrap64 ((wrap64 (x2 * (x13.length : Int))) + x14)) < (((rd_T60 x1 x12).f1).length : Int) then (if (rd ((rd_T60 x1 x12).f1) (wrap64 ((wrap64 (x2 * (x13.length : Int))) + x14))) = (-2) then (saronref06_otherwise.l1 k x1 x2 x3 x4 x11 x12 x13 (wrap64 (x14 + 1)) x251000 x251001 x251002 x251003) else (if 0 ≤ x14 then (if (rd ((rd_T60 x1 x12).f1) (wrap64 ((wrap64 (x2 * (x13.length : Int))) + x14))) = (rd x13 x14) then (saronref06_otherwise.l1 k x1 x2 x3 x4 x11 x12 x13 (wrap64 (x14 + 1)) x251000 x251001 x251002 x251003) else (saronref06_otherwise.l1 k x1 x2 x3 x4 (wrap64 (x11 + 1)) x12 x13 (wrap64 (x14 + 1)) x251000 x251001 x251002 x251003)) else (none))) else (none)) else (none)) else (none)) else (none)) else (saronref06_otherwise.l0 k x1 x2 x3 x4 x11 (wrap64 (x12 + 1)) x251000 x251001 x251002 x251003)
end
def saronref06_otherwise.f (k : Nat) (a0_0 : Int) (a0_1 : Int) (a0_2 : Int) (l0_3 : List (S66)) (l1 : List (S60)) (a2 : Int) (a3 : Int) (a4 : Int) : Option (Int) := saronref06_otherwise.l0 k l1 a2 a3 a4 0 0 a0_0 a0_1 a0_2 l0_3
def saronref06_otherwise.T5 : Bool × List (List Nat × List Nat) := (true, [([], []), ([], []), ([], []), ([1, 2], [1, 2]), ([3], [3]), ([4], [4]), ([], []), ([], []), ([0, 5, 6, 7], [0, 5, 6, 7]), ([8, 8, 0, 1, 2, 3, 4, 5, 6, 7, 8], [8])])
def saronref06_otherwise.B5 : List Nat := [0, 0, 0, 6, 14, 30, 0, 0, 255, 511]
theorem saronref06_otherwise.tab5 : rtab .any (opsOf Tryd.f76 5) = saronref06_otherwise.T5 := by kernel_rfl
theorem saronref06_otherwise.bits5 : waitsOk saronref06_otherwise.T5.2 saronref06_otherwise.B5 = true := by kernel_rfl
set_option maxHeartbeats 8000000 in
set_option maxRecDepth 100000 in
theorem saronref06_otherwise.calls (k : Nat) (a0_0 : Int) (a0_1 : Int) (a0_2 : Int) (A0_3 : Option Addr) (c0_3 : Nat) (l0_3 : List (S66)) (A1 : Option Addr) (c1 : Nat) (l1 : List (S60)) (a2 : Int) (a3 : Int) (a4 : Int) (r : Int) (w : World) (hr0_3 : Kd.C k66 w A0_3 l0_3.length l0_3) (hc0_3 : l0_3.length ≤ c0_3) (hr1 : Kd.C k60 w A1 l1.length l1) (hc1 : l1.length ≤ c1) (h : saronref06_otherwise.f k a0_0 a0_1 a0_2 l0_3 l1 a2 a3 a4 = some r) :
  Calls Tryd.prog 76 #[.agg #[.int .i64 a0_0, .int .i64 a0_1, .int .i64 a0_2, .slice A0_3 l0_3.length c0_3], .slice A1 l1.length c1, .int .i64 a2, .int .i64 a3, .int .i64 a4] w fun e w' => e = .returned (.int .i64 r) ∧ Below w.heap.size w w' := by
 have hu24 := Tryd.underlying24
 have HR0_3 := zh hr0_3
 have HC0_3 := zh hc0_3
 clear hr0_3 hc0_3
 have HR1 := zh hr1
 have HC1 := zh hc1
 clear hr1 hc1
 have HB := zh (Below.refl w.heap.size w)
 have H : (saronref06_otherwise.l0 k l1 a2 a3 a4 0 0 a0_0 a0_1 a0_2 l0_3) = some r := h
 clear h
 have H' := zh H
 clear H
 go_enter Tryd.func76, Tryd.ntmps76
 go_wp2_with (first | ((with_reducible refine gate_dst (N := 5) rfl ?_); refine box_event ?hg (N := 5) ?hd (cs := #[.int .i64 a0_0, .int .i64 a0_1, .int .i64 a0_2, .slice A0_3 l0_3.length c0_3]) (t := 24) ?hr ?_; (case hd => rfl); (case hg => rfl); (case hr => first | (go_simp; done) | (go_simp; rfl)); intro gb250 hg w6 hbox hb; have n0_ := zh (below_step zb hb); have n1_ := zh (hbox); have n2_ := zh ((by rw [hg]; exact (below_size zb) : w.heap.size ≤ gb250)); have n3_ := zh ((by rw [hg]; exact (below_size zb) : w.heap.size ≤ gb250)); clear HB; have HB := n0_; have BK250 := n1_; have GW250 := n2_; have GE250 := n3_; clear n0_ n1_ n2_ n3_; clear hb hbox hg))
 go_loopg [11, 12] k (fun kq v11 v12 w' => ∃ (x11_1 : Int) (x12_1 : Int), v11 = .int .i64 x11_1 ∧ v12 = .int .i64 x12_1 ∧ Aside0 (saronref06_otherwise.l0 kq l1 a2 a3 a4 x11_1 x12_1 a0_0 a0_1 a0_2 l0_3 = some r) ∧ Aside0 (kq ≤ k) ∧ Aside0 (w'.heap[gb250]? = some (.cells #[.int .i64 a0_0, .int .i64 a0_1, .int .i64 a0_2, (.slice A0_3 l0_3.length c0_3)] 24 (0, 0))) ∧ Aside0 (Below w.heap.size w w'))
 case atStart => exact ⟨(0), (0), ze, ze, H', ⟨Nat.le_refl _⟩, ⟨zc BK250⟩, ⟨zb⟩⟩
 case round =>
  clear H'
  try clear c1
  try clear p2
  obtain ⟨x11_1, x12_1, rfl, rfl, HA, HK1, BK250, HB⟩ := hrel
  cases gk with
  | zero => exact absurd HA.out (by simp [saronref06_otherwise.l0])
  | succ k1 =>
   have H := HA.out
   clear HA
   simp only [saronref06_otherwise.l0] at H
   by_cases c7 : x12_1 < (l1.length : Int)
   ·rw [if_pos c7] at H
    have c7b0 : decide (x12_1 < (l1.length : Int)) = true := decide_eq_true c7
    clear c7
    by_cases c8 : 0 ≤ x12_1
    ·rw [if_pos c8] at H
     have c8b0 : decide (0 ≤ x12_1) = true := decide_eq_true c8
     clear c8
     replace H := Option.bind_eq_some_iff.mp H
     obtain ⟨t252, A90, H⟩ := H
     replace H : (saronref06_otherwise.l1 k1 l1 a2 a3 a4 x11_1 x12_1 t252 0 a0_0 a0_1 a0_2 l0_3) = some r := H
     have A9 := zh A90
     clear A90
     have H' := zh H
     clear H
     try go_wp2
     replace BK250 := zh (blk_drew BK250.out)
     replace HB := zh (below_drew1 HB.out)
     have p251 : 0 ≤ (x12_1 : Int) := of_decide_eq_true zs
     have q251 : x12_1 < (l1.length : Int) := of_decide_eq_true zs
     obtain ⟨ad251, A251_1, c251_1, e251, hx251_0, hx251_1, hl251_1, hi251_1⟩ := at_T60 HR1.out x12_1 p251 q251
     have hw251_1 := hx251_1
     have hw251_0 := hx251_0
     cases e251
     replace hx251_0 := ve HB.out hx251_0
     replace hx251_1 := ve HB.out hx251_1
     have HR251_1 := zh hi251_1
     have HC251_1 := zh hl251_1
     clear hi251_1 hl251_1
     replace p251 := eq_true p251
     replace q251 := eq_true q251
     refine start_ (n := 10) (S := fun w' => w'.cell? ⟨gb250, 0, none⟩ = some (.int .i64 a0_0) ∧ w'.cell? ⟨gb250, 1, none⟩ = some (.int .i64 a0_1) ∧ w'.cell? ⟨gb250, 2, none⟩ = some (.int .i64 a0_2) ∧ w'.cell? ⟨gb250, 3, none⟩ = some (.slice A0_3 l0_3.length c0_3) ∧ w'.cell? (ad251.add ((x12_1).toNat * 2)) = some (.int .i64 ((rd_T60 l1 x12_1).f0)) ∧ w'.cell? ⟨(ad251.add ((x12_1).toNat * 2)).block, (ad251.add ((x12_1).toNat * 2)).off + 1, none⟩ = some (.slice A251_1 ((rd_T60 l1 x12_1).f1).length c251_1)) (ds := []) (Array.replicate 10 false) zk rfl rfl ⟨vb BK250 0, vb BK250 1, vb BK250 2, vb BK250 3, (ve HB.out hw251_0), (ve HB.out hw251_1)⟩ (fun hHeld => ?_); refine with_tabW saronref06_otherwise.tab5 saronref06_otherwise.bits5 (fun HT_ HW_ => ?_)
     generalize wr.drew = w10 at BK250 HB HR251_1 hx251_0 hx251_1 hHeld ⊢
     refine zu 1 ?_
     refine zu 2 ?_
     refine zu 3 ?_
     refine zu 4 ?_
     refine zu 6 ?_
     refine zu 7 ?_
     refine zt 0 ?_
     refine zt 5 ?_
     refine zo 8 (fun K hK => ?_)
     refine goes_ Tryd.func81 zk rfl #[.agg #[.int .i64 a0_0, .int .i64 a0_1, .int .i64 a0_2, .slice A0_3 l0_3.length c0_3], .int .i64 ((rd_T60 l1 x12_1).f0), .int .i64 a3, .int .i64 a4] (by rfl) rfl rfl zm ?_
     with_reducible refine (saronref06_bar.calls k1 a0_0 a0_1 a0_2 _ _ l0_3 ((rd_T60 l1 x12_1).f0) a3 a4 t252 _ ?side1 ?side2 A9.out).mono ?_
     (case side1 => repeat (first | exact (Kd.C_below HR0_3.out HB.out) | (with_reducible refine Kd.C_alloc ?_ _) | (with_reducible refine Kd.C_drewN ?_ _) | (with_reducible refine Kd.C_drew ?_)))
     (case side2 => exact HC0_3.out)
     rintro e w11 ⟨v253, rfl, ho0, hb⟩
     refine ⟨_, rfl, ?_⟩
     have HO254 := zh (Kd.R_lower ho0 (below_size zb))
     replace BK250 := zh (blk_below (g := gb250) (o := .cells #[.int .i64 a0_0, .int .i64 a0_1, .int .i64 a0_2, .slice A0_3 l0_3.length c0_3] 24 (0, 0)) (zc BK250) hb)
     replace HB := zh (below_step zb hb)
     (try clear hb)
     (try clear hb2)
     (try clear hk)
     (try clear hi)
     (try clear ho0)
     refine hK.out _ _ ⟨vb BK250 0, vb BK250 1, vb BK250 2, vb BK250 3, (ve HB.out hw251_0), (ve HB.out hw251_1)⟩ (fun hHeld => ?_)
     clear hK K
     refine zr 30 _ ?_
     refine zu 9 ?_
     refine zd ?_
     try go_wp2
     go_loopg [11, 14] k1 (fun kq v11 v14 w' => ∃ (x11_2 : Int) (x14_2 : Int), v11 = .int .i64 x11_2 ∧ v14 = .int .i64 x14_2 ∧ Aside0 (saronref06_otherwise.l1 kq l1 a2 a3 a4 x11_2 x12_1 t252 x14_2 a0_0 a0_1 a0_2 l0_3 = some r) ∧ Aside0 (kq ≤ k1) ∧ Aside0 (Kd.R (Kd.int .i64) 3 w' w.heap.size (fun _ => True) v253 t252) ∧ Aside0 (w'.heap[gb250]? = some (.cells #[.int .i64 a0_0, .int .i64 a0_1, .int .i64 a0_2, (.slice A0_3 l0_3.length c0_3)] 24 (0, 0))) ∧ Aside0 (Below w.heap.size w w'))
     case atStart => exact ⟨(x11_1), (0), ze, ze, H', ⟨Nat.le_refl _⟩, ⟨zR HO254⟩, ⟨zc BK250⟩, ⟨zb⟩⟩
     case round =>
      clear H'
      try clear c1
      try clear c2
      try clear p2
      try clear q2
      try clear hx2
      try clear c7
      try clear c7b0
      try clear c8
      try clear c8b0
      try clear hx251_0
      try clear hx251_1
      try clear p2
      try clear p251
      try clear q251
      obtain ⟨x11_2, x14_2, rfl, rfl, HA, HK2, HO_13, BK250, HB⟩ := hrel
      cases gk with
      | zero => exact absurd HA.out (by simp [saronref06_otherwise.l1])
      | succ k2 =>
       have H := HA.out
       clear HA
       simp only [saronref06_otherwise.l1] at H
       by_cases c12 : x14_2 < (t252.length : Int)
       ·rw [if_pos c12] at H
        have c12b0 : decide (x14_2 < (t252.length : Int)) = true := decide_eq_true c12
        clear c12
        by_cases c13 : 0 ≤ x12_1
        ·rw [if_pos c13] at H
         have c13b0 : decide (0 ≤ x12_1) = true := decide_eq_true c13
         clear c13
         by_cases c14 : x12_1 < (l1.length : Int)
         ·rw [if_pos c14] at H
          have c14b0 : decide (x12_1 < (l1.length : Int)) = true := decide_eq_true c14
          clear c14
          obtain ⟨ji15, hji15⟩ : ∃ j_ : Int, (wrap64 ((wrap64 (a2 * (t252.length : Int))) + x14_2)) = j_ := ⟨_, rfl⟩
          replace H : (if 0 ≤ (ji15) then (if (ji15) < (((rd_T60 l1 x12_1).f1).length : Int) then (if (rd ((rd_T60 l1 x12_1).f1) (ji15)) = (-2) then (saronref06_otherwise.l1 k2 l1 a2 a3 a4 x11_2 x12_1 t252 (wrap64 (x14_2 + 1)) a0_0 a0_1 a0_2 l0_3) else (if 0 ≤ x14_2 then (if (rd ((rd_T60 l1 x12_1).f1) (ji15)) = (rd t252 x14_2) then (saronref06_otherwise.l1 k2 l1 a2 a3 a4 x11_2 x12_1 t252 (wrap64 (x14_2 + 1)) a0_0 a0_1 a0_2 l0_3) else (saronref06_otherwise.l1 k2 l1 a2 a3 a4 (wrap64 (x11_2 + 1)) x12_1 t252 (wrap64 (x14_2 + 1)) a0_0 a0_1 a0_2 l0_3)) else (none))) else (none)) else (none)) = some r := by first | (rw [hji15] at H; exact H) | (simp only [hji15] at H ⊢; exact H)
          have hji15w : (IntKind.i64.wrap ((wrap64 (a2 * (t252.length : Int))) + x14_2)) = ji15 := (i64_w _).trans hji15
          by_cases c16 : 0 ≤ (ji15)
          ·rw [if_pos c16] at H
           have c16b0 : decide (0 ≤ (ji15)) = true := decide_eq_true c16
           clear c16
           by_cases c17 : (ji15) < (((rd_T60 l1 x12_1).f1).length : Int)
           ·rw [if_pos c17] at H
            have c17b0 : decide ((ji15) < (((rd_T60 l1 x12_1).f1).length : Int)) = true := decide_eq_true c17
            clear c17
            by_cases c18 : (rd ((rd_T60 l1 x12_1).f1) (ji15)) = (-2)
            ·rw [if_pos c18] at H
             have c18b0 : ((rd ((rd_T60 l1 x12_1).f1) (ji15)) == (-2)) = true := beq_iff_eq.mpr c18
             have c18b1 : ((rd ((rd_T60 l1 x12_1).f1) (ji15)) != (-2)) = false := bne_eq_false_iff_eq.mpr c18
             clear c18
             have H' := zh H
             clear H
             obtain ⟨Ao19, co19, eo19⟩ := Kd.R_slice HO_13.out
             subst eo19
             have p255 : 0 ≤ (x12_1 : Int) := of_decide_eq_true zs
             have q255 : x12_1 < (l1.length : Int) := of_decide_eq_true zs
             obtain ⟨ad255, A255_1, c255_1, e255, hx255_0, hx255_1, hl255_1, hi255_1⟩ := at_T60 HR1.out x12_1 p255 q255
             obtain rfl : ad251 = ad255 := (by injection e255)
             replace hx255_0 := ve HB.out hx255_0
             replace hx255_1 := ve HB.out hx255_1
             have HR255_1 := zh hi255_1
             have HC255_1 := zh hl255_1
             clear hi255_1 hl255_1
             replace p255 := eq_true p255
             replace q255 := eq_true q255
             have p256 : 0 ≤ ((ji15) : Int) := of_decide_eq_true zs
             have q256 : (ji15) < (((rd_T60 l1 x12_1).f1).length : Int) := of_decide_eq_true zs
             obtain ⟨ad256, e256, hx256_0⟩ := Kd.at_int HR255_1.out (ji15) p256 q256
             cases e256
             replace hx256_0 := ve HB.out hx256_0
             replace p256 := eq_true p256
             replace q256 := eq_true q256
             go_wp2
             go_roundg k2
             case measure => have := HK1.out; have := HK2.out; omega
             case rel => exact ⟨(x11_2), (wrap64 (x14_2 + 1)), ze, ze, H', ⟨zw HK1 HK2⟩, ⟨zR HO_13⟩, ⟨zc BK250⟩, ⟨zb⟩⟩
            ·rw [if_neg c18] at H
             have c18b0 : ((rd ((rd_T60 l1 x12_1).f1) (ji15)) == (-2)) = false := beq_eq_false_iff_ne.mpr c18
             have c18b1 : ((rd ((rd_T60 l1 x12_1).f1) (ji15)) != (-2)) = true := bne_iff_ne.mpr c18
             by_cases c20 : 0 ≤ x14_2
             ·rw [if_pos c20] at H
              have c20b0 : decide (0 ≤ x14_2) = true := decide_eq_true c20
              clear c20
              by_cases c21 : (rd ((rd_T60 l1 x12_1).f1) (ji15)) = (rd t252 x14_2)
              ·rw [if_pos c21] at H
               have c21b0 : ((rd ((rd_T60 l1 x12_1).f1) (ji15)) == (rd t252 x14_2)) = true := beq_iff_eq.mpr c21
               have c21b1 : ((rd ((rd_T60 l1 x12_1).f1) (ji15)) != (rd t252 x14_2)) = false := bne_eq_false_iff_eq.mpr c21
               clear c21
               have H' := zh H
               clear H
               obtain ⟨Ao22, co22, eo22⟩ := Kd.R_slice HO_13.out
               subst eo22
               have p255 : 0 ≤ (x12_1 : Int) := of_decide_eq_true zs
               have q255 : x12_1 < (l1.length : Int) := of_decide_eq_true zs
               obtain ⟨ad255, A255_1, c255_1, e255, hx255_0, hx255_1, hl255_1, hi255_1⟩ := at_T60 HR1.out x12_1 p255 q255
               obtain rfl : ad251 = ad255 := (by injection e255)
               replace hx255_0 := ve HB.out hx255_0
               replace hx255_1 := ve HB.out hx255_1
               have HR255_1 := zh hi255_1
               have HC255_1 := zh hl255_1
               clear hi255_1 hl255_1
               replace p255 := eq_true p255
               replace q255 := eq_true q255
               have p256 : 0 ≤ ((ji15) : Int) := of_decide_eq_true zs
               have q256 : (ji15) < (((rd_T60 l1 x12_1).f1).length : Int) := of_decide_eq_true zs
               obtain ⟨ad256, e256, hx256_0⟩ := Kd.at_int HR255_1.out (ji15) p256 q256
               cases e256
               replace hx256_0 := ve HB.out hx256_0
               replace p256 := eq_true p256
               replace q256 := eq_true q256
               have p257 : 0 ≤ (x14_2 : Int) := of_decide_eq_true zs
               have q257 : x14_2 < (t252.length : Int) := of_decide_eq_true zs
               obtain ⟨ad257, e257, hx257_0⟩ := Kd.at_int (Kd.R_reads' HO_13.out).2.2 x14_2 p257 q257
               cases e257
               replace p257 := eq_true p257
               replace q257 := eq_true q257
               go_wp2
               go_roundg k2
               case measure => have := HK1.out; have := HK2.out; omega
               case rel => exact ⟨(x11_2), (wrap64 (x14_2 + 1)), ze, ze, H', ⟨zw HK1 HK2⟩, ⟨zR HO_13⟩, ⟨zc BK250⟩, ⟨zb⟩⟩
              ·rw [if_neg c21] at H
               have c21b0 : ((rd ((rd_T60 l1 x12_1).f1) (ji15)) == (rd t252 x14_2)) = false := beq_eq_false_iff_ne.mpr c21
               have c21b1 : ((rd ((rd_T60 l1 x12_1).f1) (ji15)) != (rd t252 x14_2)) = true := bne_iff_ne.mpr c21
               have H' := zh H
               clear H
               obtain ⟨Ao23, co23, eo23⟩ := Kd.R_slice HO_13.out
               subst eo23
               have p255 : 0 ≤ (x12_1 : Int) := of_decide_eq_true zs
               have q255 : x12_1 < (l1.length : Int) := of_decide_eq_true zs
               obtain ⟨ad255, A255_1, c255_1, e255, hx255_0, hx255_1, hl255_1, hi255_1⟩ := at_T60 HR1.out x12_1 p255 q255
               obtain rfl : ad251 = ad255 := (by injection e255)
               replace hx255_0 := ve HB.out hx255_0
               replace hx255_1 := ve HB.out hx255_1
               have HR255_1 := zh hi255_1
               have HC255_1 := zh hl255_1
               clear hi255_1 hl255_1
               replace p255 := eq_true p255
               replace q255 := eq_true q255
               have p256 : 0 ≤ ((ji15) : Int) := of_decide_eq_true zs
               have q256 : (ji15) < (((rd_T60 l1 x12_1).f1).length : Int) := of_decide_eq_true zs
               obtain ⟨ad256, e256, hx256_0⟩ := Kd.at_int HR255_1.out (ji15) p256 q256
               cases e256
               replace hx256_0 := ve HB.out hx256_0
               replace p256 := eq_true p256
               replace q256 := eq_true q256
               have p257 : 0 ≤ (x14_2 : Int) := of_decide_eq_true zs
               have q257 : x14_2 < (t252.length : Int) := of_decide_eq_true zs
               obtain ⟨ad257, e257, hx257_0⟩ := Kd.at_int (Kd.R_reads' HO_13.out).2.2 x14_2 p257 q257
               cases e257
               replace p257 := eq_true p257
               replace q257 := eq_true q257
               go_wp2
               go_roundg k2
               case measure => have := HK1.out; have := HK2.out; omega
               case rel => exact ⟨(wrap64 (x11_2 + 1)), (wrap64 (x14_2 + 1)), ze, ze, H', ⟨zw HK1 HK2⟩, ⟨zR HO_13⟩, ⟨zc BK250⟩, ⟨zb⟩⟩
             ·rw [if_neg c20] at H
              exact absurd H (by simp)
           ·rw [if_neg c17] at H
            exact absurd H (by simp)
          ·rw [if_neg c16] at H
           exact absurd H (by simp)
         ·rw [if_neg c14] at H
          exact absurd H (by simp)
        ·rw [if_neg c13] at H
         exact absurd H (by simp)
       ·rw [if_neg c12] at H
        have c12b0 : decide (x14_2 < (t252.length : Int)) = false := decide_eq_false c12
        clear c12
        have H' := zh H
        clear H
        obtain ⟨Ao24, co24, eo24⟩ := Kd.R_slice HO_13.out
        subst eo24
        go_wp2
        go_roundg k2
        case measure => have := HK1.out; have := HK2.out; omega
        case rel => exact ⟨(x11_2), (wrap64 (x12_1 + 1)), ze, ze, H', ⟨zw HK1 HK2⟩, ⟨zc BK250⟩, ⟨zb⟩⟩
    ·rw [if_neg c8] at H
     exact absurd H (by simp)
   ·rw [if_neg c7] at H
    have c7b0 : decide (x12_1 < (l1.length : Int)) = false := decide_eq_false c7
    clear c7
    obtain rfl := Option.some.inj H
    go_wp2
    go_ret
    exact ⟨zf, zb⟩
end Go.Proofs.YtagkfkdoibnhfaaDoor.H
end
section
namespace Go.Proofs.YtagkfkdoibnhfaaDoor.H
open Go.RowKit Go.Proofs.YtagkfkdoibnhfaaDoorW.PrintWords Go.Proofs.YtagkfkdoibnhfaaDoorW.PrintLast Go.Proofs.YtagkfkdoibnhfaaDoorW.PrintMore
attribute [local go_sem] max2_int min2_int max_two min_two max_three min_three max_four min_four   -- for this text's walks alone
set_option linter.unusedVariables false
set_option linter.unusedSimpArgs false
mutual
def saronref06_choices.l0 : Nat → List (S60) → Int → List (S61) → Int → Int → Int → Int → List (S66) → Option ((List (S61)))
 | 0, _, _, _, _, _, _, _, _ => none
 | k + 1, x1, x2, x7, x8, x259000, x259001, x259002, x259003 => (saronref06_tones.f x259000 x259001 x259002 x259003).bind fun t259 => (if x8 < t259 then (saronref06_choices.l1 k x1 x2 x7 x8 0 x259000 x259001 x259002 x259003) else (some x7))
def saronref06_choices.l1 : Nat → List (S60) → Int → List (S61) → Int → Int → Int → Int → Int → List (S66) → Option ((List (S61)))
 | 0, _, _, _, _, _, _, _, _, _ => none
 | k + 1, x1, x2, x7, x8, x9, x259000, x259001, x259002, x259003 => (saronref06_tones.f x259000 x259001 x259002 x259003).bind fun t260 => (if x9 < t260 then ((saronref06_otherwise.f k x259000 x259001 x259002 x259003 x1 x2 x8 x9).bind fun t261 => (if t261 = 0 then (if x7.length < 8796093022208 then (saronref06_choices.l1 k x1 x2 (x7 ++ [(⟨x8, x9⟩ : S61)]) x8 (wrap64 (x9 + 1)) x259000 x259001 x259002 x259003) else (none)) else (saronref06_choices.l1 k x1 x2 x7 x8 (wrap64 (x9 + 1)) x259000 x259001 x259002 x259003))) else (saronref06_choices.l0 k x1 x2 x7 (wrap64 (x8 + 1)) x259000 x259001 x259002 x259003))
end
def saronref06_choices.f (k : Nat) (a0_0 : Int) (a0_1 : Int) (a0_2 : Int) (l0_3 : List (S66)) (l1 : List (S60)) (a2 : Int) : Option ((List (S61))) := saronref06_choices.l0 k l1 a2 ([] : List (S61)) 0 a0_0 a0_1 a0_2 l0_3
set_option maxHeartbeats 8000000 in
set_option maxRecDepth 100000 in
theorem saronref06_choices.calls (k : Nat) (a0_0 : Int) (a0_1 : Int) (a0_2 : Int) (A0_3 : Option Addr) (c0_3 : Nat) (l0_3 : List (S66)) (A1 : Option Addr) (c1 : Nat) (l1 : List (S60)) (a2 : Int) (r : List (S61)) (w : World) (hr0_3 : Kd.C k66 w A0_3 l0_3.length l0_3) (hc0_3 : l0_3.length ≤ c0_3) (hr1 : Kd.C k60 w A1 l1.length l1) (hc1 : l1.length ≤ c1) (h : saronref06_choices.f k a0_0 a0_1 a0_2 l0_3 l1 a2 = some r) :
  Calls Tryd.prog 86 #[.agg #[.int .i64 a0_0, .int .i64 a0_1, .int .i64 a0_2, .slice A0_3 l0_3.length c0_3], .slice A1 l1.length c1, .int .i64 a2] w fun e w' => ∃ v0_ : Value, e = .returned (v0_) ∧ Kd.R k61 61 w' w.heap.size (fun _ => True) v0_ r ∧ Below w.heap.size w w' := by
 have hu24 := Tryd.underlying24
 have hu61 := Tryd.underlying61
 have HR0_3 := zh hr0_3
 have HC0_3 := zh hc0_3
 clear hr0_3 hc0_3
 have HR1 := zh hr1
 have HC1 := zh hc1
 clear hr1 hc1
 have HB := zh (Below.refl w.heap.size w)
 have H : (saronref06_choices.l0 k l1 a2 ([] : List (S61)) 0 a0_0 a0_1 a0_2 l0_3) = some r := h
 clear h
 have H' := zh H
 clear H
 go_enter Tryd.func86, Tryd.ntmps86
 go_wp2_with (first | ((with_reducible refine gate_dst (N := 3) rfl ?_); refine box_event ?hg (N := 3) ?hd (cs := #[.int .i64 a0_0, .int .i64 a0_1, .int .i64 a0_2, .slice A0_3 l0_3.length c0_3]) (t := 24) ?hr ?_; (case hd => rfl); (case hg => rfl); (case hr => first | (go_simp; done) | (go_simp; rfl)); intro gb258 hg w4 hbox hb; have n0_ := zh (below_step zb hb); have n1_ := zh (hbox); have n2_ := zh ((by rw [hg]; exact (below_size zb) : w.heap.size ≤ gb258)); have n3_ := zh ((by rw [hg]; exact (below_size zb) : w.heap.size ≤ gb258)); clear HB; have HB := n0_; have BK258 := n1_; have GW258 := n2_; have GE258 := n3_; clear n0_ n1_ n2_ n3_; clear hb hbox hg))
 go_loopg [7, 8] k (fun kq v7 v8 w' => ∃ (x7_1 : List (S61)) (x8_1 : Int), v8 = .int .i64 x8_1 ∧ Aside0 (saronref06_choices.l0 kq l1 a2 x7_1 x8_1 a0_0 a0_1 a0_2 l0_3 = some r) ∧ Aside0 (kq ≤ k) ∧ Aside0 (Kd.R k61 61 w' w.heap.size (fun _ => True) v7 x7_1) ∧ Aside0 (w'.heap[gb258]? = some (.cells #[.int .i64 a0_0, .int .i64 a0_1, .int .i64 a0_2, (.slice A0_3 l0_3.length c0_3)] 24 (0, 0))) ∧ Aside0 (Below w.heap.size w w'))
 case atStart => exact ⟨(([] : List (S61))), (0), ze, H', ⟨Nat.le_refl _⟩, ⟨by first | exact Kd.R_nil _ _ _ _ _ | exact Kd.N_nil _ _ _ _ _ | exact Kd.V_nil _ _ _ _ _ | exact Kd.Q_nil _ _ _ _ _ | exact Kd.S_nil _ _ _ _ _⟩, ⟨zc BK258⟩, ⟨zb⟩⟩
 case round =>
  clear H'
  try clear c1
  try clear p2
  obtain ⟨x7_1, x8_1, rfl, HA, HK1, HO_7, BK258, HB⟩ := hrel
  cases gk with
  | zero => exact absurd HA.out (by simp [saronref06_choices.l0])
  | succ k1 =>
   have H := HA.out
   clear HA
   simp only [saronref06_choices.l0] at H
   replace H := Option.bind_eq_some_iff.mp H
   obtain ⟨t259, A50, H⟩ := H
   replace H : (if x8_1 < t259 then (saronref06_choices.l1 k1 l1 a2 x7_1 x8_1 0 a0_0 a0_1 a0_2 l0_3) else (some x7_1)) = some r := H
   have A5 := zh A50
   clear A50
   by_cases c6 : x8_1 < t259
   ·rw [if_pos c6] at H
    have c6b0 : decide (x8_1 < t259) = true := decide_eq_true c6
    clear c6
    have H' := zh H
    clear H
    have hcz7_0 : wr.cell? ⟨gb258, 0, none⟩ = some (.int .i64 a0_0) := vb BK258 0
    have hcz7_1 : wr.cell? ⟨gb258, 1, none⟩ = some (.int .i64 a0_1) := vb BK258 1
    have hcz7_2 : wr.cell? ⟨gb258, 2, none⟩ = some (.int .i64 a0_2) := vb BK258 2
    have hcz7_3 : wr.cell? ⟨gb258, 3, none⟩ = some (.slice A0_3 l0_3.length c0_3) := vb BK258 3
    have hfz7_0 := blk_frozen BK258.out 0
    have hfz7_1 := blk_frozen BK258.out 1
    have hfz7_2 := blk_frozen BK258.out 2
    have hfz7_3 := blk_frozen BK258.out 3
    go_wp2_with (first | ((with_reducible refine gate_callee (f := 58) rfl ?_); refine goesL_ (some 12) rfl rfl Tryd.func58 zk rfl #[.agg #[.int .i64 a0_0, .int .i64 a0_1, .int .i64 a0_2, .slice A0_3 l0_3.length c0_3]] rfl zm ?_; (with_reducible refine (saronref06_tones.calls a0_0 a0_1 a0_2 _ _ l0_3 t259 _ ?side1 ?side2 A5.out).mono ?_); (case side1 => repeat (first | exact (Kd.C_below HR0_3.out HB.out) | (with_reducible refine Kd.C_alloc ?_ _) | (with_reducible refine Kd.C_drewN ?_ _) | (with_reducible refine Kd.C_drew ?_))); (case side2 => exact HC0_3.out); rintro e w8 ⟨rfl, hb⟩; refine ⟨_, rfl, ?_⟩; have n0_ := zh (Kd.R_below (zR HO_7) hb); have n1_ := zh (blk_below (g := gb258) (o := .cells #[.int .i64 a0_0, .int .i64 a0_1, .int .i64 a0_2, .slice A0_3 l0_3.length c0_3] 24 (0, 0)) (zc BK258) hb); have n2_ := zh (below_step zb hb); clear HO_7; clear BK258; clear HB; have HO_7 := n0_; have BK258 := n1_; have HB := n2_; clear n0_ n1_ n2_; (try clear hb); (try clear hb2); (try clear hk); (try clear hi)))
    go_loopg [7, 9] k1 (fun kq v7 v9 w' => ∃ (x7_2 : List (S61)) (x9_2 : Int), v9 = .int .i64 x9_2 ∧ Aside0 (saronref06_choices.l1 kq l1 a2 x7_2 x8_1 x9_2 a0_0 a0_1 a0_2 l0_3 = some r) ∧ Aside0 (kq ≤ k1) ∧ Aside0 (Kd.R k61 61 w' w.heap.size (fun _ => True) v7 x7_2) ∧ Aside0 (w'.heap[gb258]? = some (.cells #[.int .i64 a0_0, .int .i64 a0_1, .int .i64 a0_2, (.slice A0_3 l0_3.length c0_3)] 24 (0, 0))) ∧ Aside0 (Below w.heap.size w w'))
    case atStart => exact ⟨(x7_1), (0), ze, H', ⟨Nat.le_refl _⟩, ⟨zR HO_7⟩, ⟨zc BK258⟩, ⟨zb⟩⟩
    case round =>
     clear H'
     try clear c1
     try clear p2
     try clear c5
     try clear c6
     try clear c6b0
     try clear c8
     try clear hcz7_0
     try clear hcz7_1
     try clear hcz7_2
     try clear hcz7_3
     try clear hfz7_0
     try clear hfz7_1
     try clear hfz7_2
     try clear hfz7_3
     try clear p2
     obtain ⟨x7_2, x9_2, rfl, HA, HK2, HO_7, BK258, HB⟩ := hrel
     cases gk with
     | zero => exact absurd HA.out (by simp [saronref06_choices.l1])
     | succ k2 =>
      have H := HA.out
      clear HA
      simp only [saronref06_choices.l1] at H
      replace H := Option.bind_eq_some_iff.mp H
      obtain ⟨t260, A90, H⟩ := H
      replace H : (if x9_2 < t260 then ((saronref06_otherwise.f k2 a0_0 a0_1 a0_2 l0_3 l1 a2 x8_1 x9_2).bind fun t261 => (if t261 = 0 then (if x7_2.length < 8796093022208 then (saronref06_choices.l1 k2 l1 a2 (x7_2 ++ [(⟨x8_1, x9_2⟩ : S61)]) x8_1 (wrap64 (x9_2 + 1)) a0_0 a0_1 a0_2 l0_3) else (none)) else (saronref06_choices.l1 k2 l1 a2 x7_2 x8_1 (wrap64 (x9_2 + 1)) a0_0 a0_1 a0_2 l0_3))) else (saronref06_choices.l0 k2 l1 a2 x7_2 (wrap64 (x8_1 + 1)) a0_0 a0_1 a0_2 l0_3)) = some r := H
      have A9 := zh A90
      clear A90
      by_cases c10 : x9_2 < t260
      ·rw [if_pos c10] at H
       have c10b0 : decide (x9_2 < t260) = true := decide_eq_true c10
       clear c10
       replace H := Option.bind_eq_some_iff.mp H
       obtain ⟨t261, A110, H⟩ := H
       replace H : (if t261 = 0 then (if x7_2.length < 8796093022208 then (saronref06_choices.l1 k2 l1 a2 (x7_2 ++ [(⟨x8_1, x9_2⟩ : S61)]) x8_1 (wrap64 (x9_2 + 1)) a0_0 a0_1 a0_2 l0_3) else (none)) else (saronref06_choices.l1 k2 l1 a2 x7_2 x8_1 (wrap64 (x9_2 + 1)) a0_0 a0_1 a0_2 l0_3)) = some r := H
       have A11 := zh A110
       clear A110
       by_cases c12 : t261 = 0
       ·rw [if_pos c12] at H
        have c12b0 : (t261 == 0) = true := beq_iff_eq.mpr c12
        have c12b1 : (t261 != 0) = false := bne_eq_false_iff_eq.mpr c12
        clear c12
        by_cases c13 : x7_2.length < 8796093022208
        ·rw [if_pos c13] at H
         have LMc13 := zh c13
         clear c13
         obtain ⟨y262, hy262⟩ : ∃ y_ : List (S61), y_ = (x7_2 ++ [(⟨x8_1, x9_2⟩ : S61)]) := ⟨_, rfl⟩
         replace H : (saronref06_choices.l1 k2 l1 a2 y262 x8_1 (wrap64 (x9_2 + 1)) a0_0 a0_1 a0_2 l0_3) = some r := by first | (rw [hy262]; with_reducible exact H) | (have H2_ := (Option.bind_some _ _).symm.trans H; rw [hy262]; with_reducible exact H2_) | (have H2_ := (Option.bind_some _ _).symm.trans H; with_reducible exact H2_) | with_reducible exact H | (rw [hy262]; exact H) | exact H
         have Ny262 := zh hy262
         clear hy262
         have H' := zh H
         clear H
         have hcz14_0 : wr.cell? ⟨gb258, 0, none⟩ = some (.int .i64 a0_0) := vb BK258 0
         have hcz14_1 : wr.cell? ⟨gb258, 1, none⟩ = some (.int .i64 a0_1) := vb BK258 1
         have hcz14_2 : wr.cell? ⟨gb258, 2, none⟩ = some (.int .i64 a0_2) := vb BK258 2
         have hcz14_3 : wr.cell? ⟨gb258, 3, none⟩ = some (.slice A0_3 l0_3.length c0_3) := vb BK258 3
         have hfz14_0 := blk_frozen BK258.out 0
         have hfz14_1 := blk_frozen BK258.out 1
         have hfz14_2 := blk_frozen BK258.out 2
         have hfz14_3 := blk_frozen BK258.out 3
         go_wp2_with (first | ((with_reducible refine gate_callee (f := 58) rfl ?_); refine goesL_ (some 18) rfl rfl Tryd.func58 zk rfl #[.agg #[.int .i64 a0_0, .int .i64 a0_1, .int .i64 a0_2, .slice A0_3 l0_3.length c0_3]] rfl zm ?_; (with_reducible refine (saronref06_tones.calls a0_0 a0_1 a0_2 _ _ l0_3 t260 _ ?side1 ?side2 A9.out).mono ?_); (case side1 => repeat (first | exact (Kd.C_below HR0_3.out HB.out) | (with_reducible refine Kd.C_alloc ?_ _) | (with_reducible refine Kd.C_drewN ?_ _) | (with_reducible refine Kd.C_drew ?_))); (case side2 => exact HC0_3.out); rintro e w15 ⟨rfl, hb⟩; refine ⟨_, rfl, ?_⟩; have n0_ := zh (Kd.R_below (zR HO_7) hb); have n1_ := zh (blk_below (g := gb258) (o := .cells #[.int .i64 a0_0, .int .i64 a0_1, .int .i64 a0_2, .slice A0_3 l0_3.length c0_3] 24 (0, 0)) (zc BK258) hb); have n2_ := zh (below_step zb hb); clear HO_7; clear BK258; clear HB; have HO_7 := n0_; have BK258 := n1_; have HB := n2_; clear n0_ n1_ n2_; (try clear hb); (try clear hb2); (try clear hk); (try clear hi); have hcz16_0 : w15.cell? ⟨gb258, 0, none⟩ = some (.int .i64 a0_0) := vb BK258 0; have hcz16_1 : w15.cell? ⟨gb258, 1, none⟩ = some (.int .i64 a0_1) := vb BK258 1; have hcz16_2 : w15.cell? ⟨gb258, 2, none⟩ = some (.int .i64 a0_2) := vb BK258 2; have hcz16_3 : w15.cell? ⟨gb258, 3, none⟩ = some (.slice A0_3 l0_3.length c0_3) := vb BK258 3; have hfz16_0 := blk_frozen BK258.out 0; have hfz16_1 := blk_frozen BK258.out 1; have hfz16_2 := blk_frozen BK258.out 2; have hfz16_3 := blk_frozen BK258.out 3) | ((with_reducible refine gate_callee (f := 76) rfl ?_); refine goesL_ (some 27) rfl rfl Tryd.func76 zk rfl #[.agg #[.int .i64 a0_0, .int .i64 a0_1, .int .i64 a0_2, .slice A0_3 l0_3.length c0_3], .slice A1 l1.length c1, .int .i64 a2, .int .i64 x8_1, .int .i64 x9_2] rfl zm ?_; (with_reducible refine (saronref06_otherwise.calls k2 a0_0 a0_1 a0_2 _ _ l0_3 _ _ l1 a2 x8_1 x9_2 t261 _ ?side1 ?side2 ?side3 ?side4 A11.out).mono ?_); (case side1 => repeat (first | exact (Kd.C_below HR0_3.out HB.out) | (with_reducible refine Kd.C_alloc ?_ _) | (with_reducible refine Kd.C_drewN ?_ _) | (with_reducible refine Kd.C_drew ?_))); (case side2 => exact HC0_3.out); (case side3 => repeat (first | exact (Kd.C_below HR1.out HB.out) | (with_reducible refine Kd.C_alloc ?_ _) | (with_reducible refine Kd.C_drewN ?_ _) | (with_reducible refine Kd.C_drew ?_))); (case side4 => exact HC1.out); rintro e w17 ⟨rfl, hb⟩; refine ⟨_, rfl, ?_⟩; have n0_ := zh (Kd.R_below (zR HO_7) hb); have n1_ := zh (blk_below (g := gb258) (o := .cells #[.int .i64 a0_0, .int .i64 a0_1, .int .i64 a0_2, .slice A0_3 l0_3.length c0_3] 24 (0, 0)) (zc BK258) hb); have n2_ := zh (below_step zb hb); clear HO_7; clear BK258; clear HB; have HO_7 := n0_; have BK258 := n1_; have HB := n2_; clear n0_ n1_ n2_; (try clear hb); (try clear hb2); (try clear hk); (try clear hi)) | ((with_reducible refine gate_builtin (b := .append) (xs := #[.tmp 29, .tmp 33]) rfl ?_); at_builtin; refine Kd.R_append k61 (w0 := w) w.heap.size rfl (.tmp 29) (.tmp 33) 44 61 (.agg #[(.int .i64 0), (.int .i64 0)]) 16 rfl Tryd.underlying44 info61 rfl (by decide) (by omega) u7 x7_2 (⟨x8_1, x9_2⟩ : S61) [.int .i64 x8_1, .int .i64 x9_2] (fun _ => True) (fun _ => False) rfl rfl ?aP (fun _ hk => hk.elim) ?aF ?aO ?aB ?aS ?aL ?_; (case aP => exact k61_mkM _ _ _ (⟨x8_1, x9_2⟩ : S61)); (case aB => exact zb); (case aF => exact (fun _ _ => trivial)); (case aO => exact (zR HO_7)); (case aS => exact (below_size zb)); (case aL => have := LMc13.out; omega); intro v263 w18 ho hb hg hat; rw [← Ny262.out] at ho; have n0_ := zh (blk_grown (g := gb258) (o := .cells #[.int .i64 a0_0, .int .i64 a0_1, .int .i64 a0_2, .slice A0_3 l0_3.length c0_3] 24 (0, 0)) (zc BK258) hg (Kd.R_ne HO_7.out BK258.out (by decide))); have n1_ := zh (hb); have n2_ := zh (ho); clear BK258; clear HB; clear HO_7; have BK258 := n0_; have HB := n1_; have HO264 := n2_; clear n0_ n1_ n2_; clear ho hb hg hat))
         go_roundg k2
         case measure => have := HK1.out; have := HK2.out; omega
         case rel => exact ⟨(y262), (wrap64 (x9_2 + 1)), ze, H', ⟨zw HK1 HK2⟩, ⟨zR HO264⟩, ⟨zc BK258⟩, ⟨zb⟩⟩
        ·rw [if_neg c13] at H
         exact absurd H (by simp)
       ·rw [if_neg c12] at H
        have c12b0 : (t261 == 0) = false := beq_eq_false_iff_ne.mpr c12
        have c12b1 : (t261 != 0) = true := bne_iff_ne.mpr c12
        have H' := zh H
        clear H
        have hcz19_0 : wr.cell? ⟨gb258, 0, none⟩ = some (.int .i64 a0_0) := vb BK258 0
        have hcz19_1 : wr.cell? ⟨gb258, 1, none⟩ = some (.int .i64 a0_1) := vb BK258 1
        have hcz19_2 : wr.cell? ⟨gb258, 2, none⟩ = some (.int .i64 a0_2) := vb BK258 2
        have hcz19_3 : wr.cell? ⟨gb258, 3, none⟩ = some (.slice A0_3 l0_3.length c0_3) := vb BK258 3
        have hfz19_0 := blk_frozen BK258.out 0
        have hfz19_1 := blk_frozen BK258.out 1
        have hfz19_2 := blk_frozen BK258.out 2
        have hfz19_3 := blk_frozen BK258.out 3
        go_wp2_with (first | ((with_reducible refine gate_callee (f := 58) rfl ?_); refine goesL_ (some 18) rfl rfl Tryd.func58 zk rfl #[.agg #[.int .i64 a0_0, .int .i64 a0_1, .int .i64 a0_2, .slice A0_3 l0_3.length c0_3]] rfl zm ?_; (with_reducible refine (saronref06_tones.calls a0_0 a0_1 a0_2 _ _ l0_3 t260 _ ?side1 ?side2 A9.out).mono ?_); (case side1 => repeat (first | exact (Kd.C_below HR0_3.out HB.out) | (with_reducible refine Kd.C_alloc ?_ _) | (with_reducible refine Kd.C_drewN ?_ _) | (with_reducible refine Kd.C_drew ?_))); (case side2 => exact HC0_3.out); rintro e w20 ⟨rfl, hb⟩; refine ⟨_, rfl, ?_⟩; have n0_ := zh (Kd.R_below (zR HO_7) hb); have n1_ := zh (blk_below (g := gb258) (o := .cells #[.int .i64 a0_0, .int .i64 a0_1, .int .i64 a0_2, .slice A0_3 l0_3.length c0_3] 24 (0, 0)) (zc BK258) hb); have n2_ := zh (below_step zb hb); clear HO_7; clear BK258; clear HB; have HO_7 := n0_; have BK258 := n1_; have HB := n2_; clear n0_ n1_ n2_; (try clear hb); (try clear hb2); (try clear hk); (try clear hi); have hcz21_0 : w20.cell? ⟨gb258, 0, none⟩ = some (.int .i64 a0_0) := vb BK258 0; have hcz21_1 : w20.cell? ⟨gb258, 1, none⟩ = some (.int .i64 a0_1) := vb BK258 1; have hcz21_2 : w20.cell? ⟨gb258, 2, none⟩ = some (.int .i64 a0_2) := vb BK258 2; have hcz21_3 : w20.cell? ⟨gb258, 3, none⟩ = some (.slice A0_3 l0_3.length c0_3) := vb BK258 3; have hfz21_0 := blk_frozen BK258.out 0; have hfz21_1 := blk_frozen BK258.out 1; have hfz21_2 := blk_frozen BK258.out 2; have hfz21_3 := blk_frozen BK258.out 3) | ((with_reducible refine gate_callee (f := 76) rfl ?_); refine goesL_ (some 27) rfl rfl Tryd.func76 zk rfl #[.agg #[.int .i64 a0_0, .int .i64 a0_1, .int .i64 a0_2, .slice A0_3 l0_3.length c0_3], .slice A1 l1.length c1, .int .i64 a2, .int .i64 x8_1, .int .i64 x9_2] rfl zm ?_; (with_reducible refine (saronref06_otherwise.calls k2 a0_0 a0_1 a0_2 _ _ l0_3 _ _ l1 a2 x8_1 x9_2 t261 _ ?side1 ?side2 ?side3 ?side4 A11.out).mono ?_); (case side1 => repeat (first | exact (Kd.C_below HR0_3.out HB.out) | (with_reducible refine Kd.C_alloc ?_ _) | (with_reducible refine Kd.C_drewN ?_ _) | (with_reducible refine Kd.C_drew ?_))); (case side2 => exact HC0_3.out); (case side3 => repeat (first | exact (Kd.C_below HR1.out HB.out) | (with_reducible refine Kd.C_alloc ?_ _) | (with_reducible refine Kd.C_drewN ?_ _) | (with_reducible refine Kd.C_drew ?_))); (case side4 => exact HC1.out); rintro e w22 ⟨rfl, hb⟩; refine ⟨_, rfl, ?_⟩; have n0_ := zh (Kd.R_below (zR HO_7) hb); have n1_ := zh (blk_below (g := gb258) (o := .cells #[.int .i64 a0_0, .int .i64 a0_1, .int .i64 a0_2, .slice A0_3 l0_3.length c0_3] 24 (0, 0)) (zc BK258) hb); have n2_ := zh (below_step zb hb); clear HO_7; clear BK258; clear HB; have HO_7 := n0_; have BK258 := n1_; have HB := n2_; clear n0_ n1_ n2_; (try clear hb); (try clear hb2); (try clear hk); (try clear hi)))
        go_roundg k2
        case measure => have := HK1.out; have := HK2.out; omega
        case rel => exact ⟨(x7_2), (wrap64 (x9_2 + 1)), ze, H', ⟨zw HK1 HK2⟩, ⟨zR HO_7⟩, ⟨zc BK258⟩, ⟨zb⟩⟩
      ·rw [if_neg c10] at H
       have c10b0 : decide (x9_2 < t260) = false := decide_eq_false c10
       clear c10
       have H' := zh H
       clear H
       have hcz23_0 : wr.cell? ⟨gb258, 0, none⟩ = some (.int .i64 a0_0) := vb BK258 0
       have hcz23_1 : wr.cell? ⟨gb258, 1, none⟩ = some (.int .i64 a0_1) := vb BK258 1
       have hcz23_2 : wr.cell? ⟨gb258, 2, none⟩ = some (.int .i64 a0_2) := vb BK258 2
       have hcz23_3 : wr.cell? ⟨gb258, 3, none⟩ = some (.slice A0_3 l0_3.length c0_3) := vb BK258 3
       have hfz23_0 := blk_frozen BK258.out 0
       have hfz23_1 := blk_frozen BK258.out 1
       have hfz23_2 := blk_frozen BK258.out 2
       have hfz23_3 := blk_frozen BK258.out 3
       go_wp2_with (first | ((with_reducible refine gate_callee (f := 58) rfl ?_); refine goesL_ (some 18) rfl rfl Tryd.func58 zk rfl #[.agg #[.int .i64 a0_0, .int .i64 a0_1, .int .i64 a0_2, .slice A0_3 l0_3.length c0_3]] rfl zm ?_; (with_reducible refine (saronref06_tones.calls a0_0 a0_1 a0_2 _ _ l0_3 t260 _ ?side1 ?side2 A9.out).mono ?_); (case side1 => repeat (first | exact (Kd.C_below HR0_3.out HB.out) | (with_reducible refine Kd.C_alloc ?_ _) | (with_reducible refine Kd.C_drewN ?_ _) | (with_reducible refine Kd.C_drew ?_))); (case side2 => exact HC0_3.out); rintro e w24 ⟨rfl, hb⟩; refine ⟨_, rfl, ?_⟩; have n0_ := zh (Kd.R_below (zR HO_7) hb); have n1_ := zh (blk_below (g := gb258) (o := .cells #[.int .i64 a0_0, .int .i64 a0_1, .int .i64 a0_2, .slice A0_3 l0_3.length c0_3] 24 (0, 0)) (zc BK258) hb); have n2_ := zh (below_step zb hb); clear HO_7; clear BK258; clear HB; have HO_7 := n0_; have BK258 := n1_; have HB := n2_; clear n0_ n1_ n2_; (try clear hb); (try clear hb2); (try clear hk); (try clear hi)))
       go_roundg k2
       case measure => have := HK1.out; have := HK2.out; omega
       case rel => exact ⟨(x7_2), (wrap64 (x8_1 + 1)), ze, H', ⟨zw HK1 HK2⟩, ⟨zR HO_7⟩, ⟨zc BK258⟩, ⟨zb⟩⟩
   ·rw [if_neg c6] at H
    have c6b0 : decide (x8_1 < t259) = false := decide_eq_false c6
    clear c6
    obtain rfl := Option.some.inj H
    have hcz25_0 : wr.cell? ⟨gb258, 0, none⟩ = some (.int .i64 a0_0) := vb BK258 0
    have hcz25_1 : wr.cell? ⟨gb258, 1, none⟩ = some (.int .i64 a0_1) := vb BK258 1
    have hcz25_2 : wr.cell? ⟨gb258, 2, none⟩ = some (.int .i64 a0_2) := vb BK258 2
    have hcz25_3 : wr.cell? ⟨gb258, 3, none⟩ = some (.slice A0_3 l0_3.length c0_3) := vb BK258 3
    have hfz25_0 := blk_frozen BK258.out 0
    have hfz25_1 := blk_frozen BK258.out 1
    have hfz25_2 := blk_frozen BK258.out 2
    have hfz25_3 := blk_frozen BK258.out 3
    go_wp2_with (first | ((with_reducible refine gate_callee (f := 58) rfl ?_); refine goesL_ (some 12) rfl rfl Tryd.func58 zk rfl #[.agg #[.int .i64 a0_0, .int .i64 a0_1, .int .i64 a0_2, .slice A0_3 l0_3.length c0_3]] rfl zm ?_; (with_reducible refine (saronref06_tones.calls a0_0 a0_1 a0_2 _ _ l0_3 t259 _ ?side1 ?side2 A5.out).mono ?_); (case side1 => repeat (first | exact (Kd.C_below HR0_3.out HB.out) | (with_reducible refine Kd.C_alloc ?_ _) | (with_reducible refine Kd.C_drewN ?_ _) | (with_reducible refine Kd.C_drew ?_))); (case side2 => exact HC0_3.out); rintro e w26 ⟨rfl, hb⟩; refine ⟨_, rfl, ?_⟩; have n0_ := zh (Kd.R_below (zR HO_7) hb); have n1_ := zh (blk_below (g := gb258) (o := .cells #[.int .i64 a0_0, .int .i64 a0_1, .int .i64 a0_2, .slice A0_3 l0_3.length c0_3] 24 (0, 0)) (zc BK258) hb); have n2_ := zh (below_step zb hb); clear HO_7; clear BK258; clear HB; have HO_7 := n0_; have BK258 := n1_; have HB := n2_; clear n0_ n1_ n2_; (try clear hb); (try clear hb2); (try clear hk); (try clear hi)))
    go_ret
    exact ⟨_, zf, (zR HO_7), zb⟩
end Go.Proofs.YtagkfkdoibnhfaaDoor.H
end
section
namespace Go.Proofs.YtagkfkdoibnhfaaDoor.H
open Go.RowKit Go.Proofs.YtagkfkdoibnhfaaDoorW.PrintWords Go.Proofs.YtagkfkdoibnhfaaDoorW.PrintLast Go.Proofs.YtagkfkdoibnhfaaDoorW.PrintMore
attribute [local go_sem] max2_int min2_int max_two min_two max_three min_three max_four min_four   -- for this text's walks alone
set_option linter.unusedVariables false
set_option linter.unusedSimpArgs false
def saronref06_all.l0 : Nat → List (S60) → List (List (S61)) → Bool → Int → Int → Int → Int → List (S66) → Option ((List (List (S61))) × Bool)
 | 0, _, _, _, _, _, _, _, _ => none
 | k + 1, x1, x6, x7, x8, x266000, x266001, x266002, x266003 => if x8 < (wrap64 (Int.tdiv x266002 2)) then ((saronref06_choices.f k x266000 x266001 x266002 x266003 x1 x8).bind fun t266 => (if x7 = true then (if x6.length < 5864062014805 then (saronref06_all.l0 k x1 (x6 ++ [t266]) (decide ((t266.length : Int) > 0)) (wrap64 (x8 + 1)) x266000 x266001 x266002 x266003) else (none)) else (if x6.length < 5864062014805 then (saronref06_all.l0 k x1 (x6 ++ [t266]) false (wrap64 (x8 + 1)) x266000 x266001 x266002 x266003) else (none)))) else (some (x6, x7))
def saronref06_all.f (k : Nat) (a0_0 : Int) (a0_1 : Int) (a0_2 : Int) (l0_3 : List (S66)) (l1 : List (S60)) : Option ((List (List (S61))) × Bool) := saronref06_all.l0 k l1 ([] : List (List (S61))) true 0 a0_0 a0_1 a0_2 l0_3
set_option maxHeartbeats 8000000 in
set_option maxRecDepth 100000 in
theorem saronref06_all.calls (k : Nat) (a0_0 : Int) (a0_1 : Int) (a0_2 : Int) (A0_3 : Option Addr) (c0_3 : Nat) (l0_3 : List (S66)) (A1 : Option Addr) (c1 : Nat) (l1 : List (S60)) (r1 : List (List (S61))) (r2 : Bool) (w : World) (hr0_3 : Kd.C k66 w A0_3 l0_3.length l0_3) (hc0_3 : l0_3.length ≤ c0_3) (hr1 : Kd.C k60 w A1 l1.length l1) (hc1 : l1.length ≤ c1) (h : saronref06_all.f k a0_0 a0_1 a0_2 l0_3 l1 = some (r1, r2)) :
  Calls Tryd.prog 67 #[.agg #[.int .i64 a0_0, .int .i64 a0_1, .int .i64 a0_2, .slice A0_3 l0_3.length c0_3], .slice A1 l1.length c1] w fun e w' => ∃ v0_ : Value, e = .returned (.tuple #[v0_, .bool r2]) ∧ Kd.S (Kd.slice 61 k61) 44 w' w.heap.size (fun _ => True) v0_ r1 ∧ Below w.heap.size w w' := by
 have hu24 := Tryd.underlying24
 have HR0_3 := zh hr0_3
 have HC0_3 := zh hc0_3
 clear hr0_3 hc0_3
 have HR1 := zh hr1
 have HC1 := zh hc1
 clear hr1 hc1
 have HB := zh (Below.refl w.heap.size w)
 have H : (saronref06_all.l0 k l1 ([] : List (List (S61))) true 0 a0_0 a0_1 a0_2 l0_3) = some (r1, r2) := h
 clear h
 have H' := zh H
 clear H
 go_enter Tryd.func67, Tryd.ntmps67
 go_wp2_with (first | ((with_reducible refine gate_dst (N := 2) rfl ?_); (try (refine gate_guard (by rfl) ?_; dsimp only)); refine box_event ?hg (N := 2) ?hd (cs := #[.int .i64 a0_0, .int .i64 a0_1, .int .i64 a0_2, .slice A0_3 l0_3.length c0_3]) (t := 24) ?hr ?_; (case hd => rfl); (case hg => rfl); (case hr => first | (go_simp; done) | (go_simp; rfl)); intro gb265 hg w3 hbox hb; have n0_ := zh (below_step zb hb); have n1_ := zh (hbox); have n2_ := zh ((by rw [hg]; exact (below_size zb) : w.heap.size ≤ gb265)); have n3_ := zh ((by rw [hg]; exact (below_size zb) : w.heap.size ≤ gb265)); clear HB; have HB := n0_; have BK265 := n1_; have GW265 := n2_; have GE265 := n3_; clear n0_ n1_ n2_ n3_; clear hb hbox hg))
 go_loopg [6, 7, 8] k (fun kq v6 v7 v8 w' => ∃ (x6_1 : List (List (S61))) (x7_1 : Bool) (x8_1 : Int), v7 = .bool x7_1 ∧ v8 = .int .i64 x8_1 ∧ Aside0 (saronref06_all.l0 kq l1 x6_1 x7_1 x8_1 a0_0 a0_1 a0_2 l0_3 = some (r1, r2)) ∧ Aside0 (kq ≤ k) ∧ Aside0 (Kd.S (Kd.slice 61 k61) 44 w' w.heap.size (fun _ => True) v6 x6_1) ∧ Aside0 (w'.heap[gb265]? = some (.cells #[.int .i64 a0_0, .int .i64 a0_1, .int .i64 a0_2, (.slice A0_3 l0_3.length c0_3)] 24 (0, 0))) ∧ Aside0 (Below w.heap.size w w'))
 case atStart => exact ⟨(([] : List (List (S61)))), (true), (0), ze, ze, H', ⟨Nat.le_refl _⟩, ⟨by first | exact Kd.S_nil _ _ _ _ _ | exact Kd.N_nil _ _ _ _ _ | exact Kd.V_nil _ _ _ _ _ | exact Kd.Q_nil _ _ _ _ _ | exact Kd.R_nil _ _ _ _ _⟩, ⟨zc BK265⟩, ⟨zb⟩⟩
 case round =>
  clear H'
  try clear c1
  try clear p2
  obtain ⟨x6_1, x7_1, x8_1, rfl, rfl, HA, HK1, HO_6, BK265, HB⟩ := hrel
  cases gk with
  | zero => exact absurd HA.out (by simp [saronref06_all.l0])
  | succ k1 =>
   have H := HA.out
   clear HA
   simp only [saronref06_all.l0] at H
   by_cases c4 : x8_1 < (wrap64 (Int.tdiv a0_2 2))
   ·rw [if_pos c4] at H
    have c4b0 : decide (x8_1 < (wrap64 (Int.tdiv a0_2 2))) = true := decide_eq_true c4
    clear c4
    replace H := Option.bind_eq_some_iff.mp H
    obtain ⟨t266, A50, H⟩ := H
    replace H : (if x7_1 = true then (if x6_1.length < 5864062014805 then (saronref06_all.l0 k1 l1 (x6_1 ++ [t266]) (decide ((t266.length : Int) > 0)) (wrap64 (x8_1 + 1)) a0_0 a0_1 a0_2 l0_3) else (none)) else (if x6_1.length < 5864062014805 then (saronref06_all.l0 k1 l1 (x6_1 ++ [t266]) false (wrap64 (x8_1 + 1)) a0_0 a0_1 a0_2 l0_3) else (none))) = some (r1, r2) := H
    have A5 := zh A50
    clear A50
    by_cases c6 : x7_1 = true
    ·subst c6
     have H1 : (if x6_1.length < 5864062014805 then (saronref06_all.l0 k1 l1 (x6_1 ++ [t266]) (decide ((t266.length : Int) > 0)) (wrap64 (x8_1 + 1)) a0_0 a0_1 a0_2 l0_3) else (none)) = some (r1, r2) := by rw [if_pos rfl] at H; exact H
     clear H
     have H := H1
     clear H1
     by_cases c7 : x6_1.length < 5864062014805
     ·rw [if_pos c7] at H
      have LMc7 := zh c7
      clear c7
      obtain ⟨y269, hy269⟩ : ∃ y_ : List (List (S61)), y_ = (x6_1 ++ [t266]) := ⟨_, rfl⟩
      replace H : (saronref06_all.l0 k1 l1 y269 (decide ((t266.length : Int) > 0)) (wrap64 (x8_1 + 1)) a0_0 a0_1 a0_2 l0_3) = some (r1, r2) := by first | (rw [hy269]; with_reducible exact H) | (have H2_ := (Option.bind_some _ _).symm.trans H; rw [hy269]; with_reducible exact H2_) | (have H2_ := (Option.bind_some _ _).symm.trans H; with_reducible exact H2_) | with_reducible exact H | (rw [hy269]; exact H) | exact H
      have Ny269 := zh hy269
      clear hy269
      have H' := zh H
      clear H
      have hcz8_0 : wr.cell? ⟨gb265, 0, none⟩ = some (.int .i64 a0_0) := vb BK265 0
      have hcz8_1 : wr.cell? ⟨gb265, 1, none⟩ = some (.int .i64 a0_1) := vb BK265 1
      have hcz8_2 : wr.cell? ⟨gb265, 2, none⟩ = some (.int .i64 a0_2) := vb BK265 2
      have hcz8_3 : wr.cell? ⟨gb265, 3, none⟩ = some (.slice A0_3 l0_3.length c0_3) := vb BK265 3
      have hfz8_0 := blk_frozen BK265.out 0
      have hfz8_1 := blk_frozen BK265.out 1
      have hfz8_2 := blk_frozen BK265.out 2
      have hfz8_3 := blk_frozen BK265.out 3
      go_wp2_with (first | ((with_reducible refine gate_callee (f := 86) rfl ?_); refine goesL_ (some 20) rfl rfl Tryd.func86 zk rfl #[.agg #[.int .i64 a0_0, .int .i64 a0_1, .int .i64 a0_2, .slice A0_3 l0_3.length c0_3], .slice A1 l1.length c1, .int .i64 x8_1] rfl zm ?_; (with_reducible refine (saronref06_choices.calls k1 a0_0 a0_1 a0_2 _ _ l0_3 _ _ l1 x8_1 t266 _ ?side1 ?side2 ?side3 ?side4 A5.out).mono ?_); (case side1 => repeat (first | exact (Kd.C_below HR0_3.out HB.out) | (with_reducible refine Kd.C_alloc ?_ _) | (with_reducible refine Kd.C_drewN ?_ _) | (with_reducible refine Kd.C_drew ?_))); (case side2 => exact HC0_3.out); (case side3 => repeat (first | exact (Kd.C_below HR1.out HB.out) | (with_reducible refine Kd.C_alloc ?_ _) | (with_reducible refine Kd.C_drewN ?_ _) | (with_reducible refine Kd.C_drew ?_))); (case side4 => exact HC1.out); rintro e w9 ⟨v267, rfl, ho0, hb⟩; refine ⟨_, rfl, ?_⟩; have n0_ := zh (Kd.S_elder' (zS HO_6) (Kd.R_base ho0) hb); have n1_ := zh (Kd.R_lower ho0 (below_size zb)); have n2_ := zh (blk_below (g := gb265) (o := .cells #[.int .i64 a0_0, .int .i64 a0_1, .int .i64 a0_2, .slice A0_3 l0_3.length c0_3] 24 (0, 0)) (zc BK265) hb); have n3_ := zh (below_step zb hb); clear HO_6; clear BK265; clear HB; have HO_6 := n0_; have HO268 := n1_; have BK265 := n2_; have HB := n3_; clear n0_ n1_ n2_ n3_; (try clear hb); (try clear hb2); (try clear hk); (try clear hi); (try clear ho0); obtain ⟨Ao10, co10, eo10⟩ := Kd.R_slice HO268.out; subst eo10) | ((with_reducible refine gate_builtin (b := .append) (xs := #[.tmp 27, .tmp 29]) rfl ?_); (try (refine gate_guard (by rfl) ?_; dsimp only)); at_builtin; refine Kd.S_append (Kd.slice 61 k61) (w0 := w) w.heap.size rfl (.tmp 27) (.tmp 29) 99 44 (.slice none 0 0) 24 rfl Tryd.underlying99 info44 rfl (by decide) (by omega) u6 x6_1 t266 [.slice Ao10 t266.length co10] (fun _ => True) (fun k_ => some k_ = (.slice Ao10 t266.length co10 : Value).ownBlock) rfl rfl ?aP (fun k_ hk_ => ((Kd.R_mono (ok' := fun k_ => ((fun _ => True)) k_ ∧ some k_ ≠ (u6 : Value).ownBlock) (Kd.R_apart' (HO268.out) (Kd.S_typed HO_6.out) (by decide)) (fun k_ hk => ⟨trivial, hk.2⟩))).1 k_ hk_.symm) ?aF ?aO ?aB ?aS ?aL ?_; (case aP => exact Kd.M_row (Kd.R_mono (Kd.R_tight rfl (Kd.R_mono (ok' := fun k_ => ((fun _ => True)) k_ ∧ some k_ ≠ (u6 : Value).ownBlock) (Kd.R_apart' (HO268.out) (Kd.S_typed HO_6.out) (by decide)) (fun k_ hk => ⟨trivial, hk.2⟩))) (fun _ h_ => h_))); (case aB => exact zb); (case aF => exact (fun _ _ => trivial)); (case aO => exact (by (with_reducible repeat (first | apply Kd.S_alloc | apply Kd.S_drewN | apply Kd.S_drew)); exact Kd.S_mono HO_6.out (fun k_ hk => ⟨trivial, fun e_ => hk.2 e_⟩))); (case aS => exact (below_size zb)); (case aL => have := LMc7.out; omega); intro v270 w11 ho hb hg hat; rw [← Ny269.out] at ho; have n0_ := zh (blk_grown (g := gb265) (o := .cells #[.int .i64 a0_0, .int .i64 a0_1, .int .i64 a0_2, .slice A0_3 l0_3.length c0_3] 24 (0, 0)) (zc BK265) hg (Kd.S_ne HO_6.out BK265.out (by decide))); have n1_ := zh (hb); have n2_ := zh (ho); clear BK265; clear HB; clear HO_6; clear HO268; have BK265 := n0_; have HB := n1_; have HO271 := n2_; clear n0_ n1_ n2_; clear ho hb hg hat))
      go_roundg k1
      case measure => have := HK1.out; omega
      case rel => exact ⟨(y269), (decide ((t266.length : Int) > 0)), (wrap64 (x8_1 + 1)), ze, ze, H', ⟨by have := HK1.out; omega⟩, ⟨zS HO271⟩, ⟨zc BK265⟩, ⟨zb⟩⟩
     ·rw [if_neg c7] at H
      exact absurd H (by simp)
    ·replace c6 := Bool.eq_false_iff.mpr c6
     subst c6
     have H1 : (if x6_1.length < 5864062014805 then (saronref06_all.l0 k1 l1 (x6_1 ++ [t266]) false (wrap64 (x8_1 + 1)) a0_0 a0_1 a0_2 l0_3) else (none)) = some (r1, r2) := by rw [if_neg (show ¬ (false = true) by decide)] at H; exact H
     clear H
     have H := H1
     clear H1
     by_cases c12 : x6_1.length < 5864062014805
     ·rw [if_pos c12] at H
      have LMc12 := zh c12
      clear c12
      obtain ⟨y272, hy272⟩ : ∃ y_ : List (List (S61)), y_ = (x6_1 ++ [t266]) := ⟨_, rfl⟩
      replace H : (saronref06_all.l0 k1 l1 y272 false (wrap64 (x8_1 + 1)) a0_0 a0_1 a0_2 l0_3) = some (r1, r2) := by first | (rw [hy272]; with_reducible exact H) | (have H2_ := (Option.bind_some _ _).symm.trans H; rw [hy272]; with_reducible exact H2_) | (have H2_ := (Option.bind_some _ _).symm.trans H; with_reducible exact H2_) | with_reducible exact H | (rw [hy272]; exact H) | exact H
      have Ny272 := zh hy272
      clear hy272
      have H' := zh H
      clear H
      have hcz13_0 : wr.cell? ⟨gb265, 0, none⟩ = some (.int .i64 a0_0) := vb BK265 0
      have hcz13_1 : wr.cell? ⟨gb265, 1, none⟩ = some (.int .i64 a0_1) := vb BK265 1
      have hcz13_2 : wr.cell? ⟨gb265, 2, none⟩ = some (.int .i64 a0_2) := vb BK265 2
      have hcz13_3 : wr.cell? ⟨gb265, 3, none⟩ = some (.slice A0_3 l0_3.length c0_3) := vb BK265 3
      have hfz13_0 := blk_frozen BK265.out 0
      have hfz13_1 := blk_frozen BK265.out 1
      have hfz13_2 := blk_frozen BK265.out 2
      have hfz13_3 := blk_frozen BK265.out 3
      go_wp2_with (first | ((with_reducible refine gate_callee (f := 86) rfl ?_); refine goesL_ (some 20) rfl rfl Tryd.func86 zk rfl #[.agg #[.int .i64 a0_0, .int .i64 a0_1, .int .i64 a0_2, .slice A0_3 l0_3.length c0_3], .slice A1 l1.length c1, .int .i64 x8_1] rfl zm ?_; (with_reducible refine (saronref06_choices.calls k1 a0_0 a0_1 a0_2 _ _ l0_3 _ _ l1 x8_1 t266 _ ?side1 ?side2 ?side3 ?side4 A5.out).mono ?_); (case side1 => repeat (first | exact (Kd.C_below HR0_3.out HB.out) | (with_reducible refine Kd.C_alloc ?_ _) | (with_reducible refine Kd.C_drewN ?_ _) | (with_reducible refine Kd.C_drew ?_))); (case side2 => exact HC0_3.out); (case side3 => repeat (first | exact (Kd.C_below HR1.out HB.out) | (with_reducible refine Kd.C_alloc ?_ _) | (with_reducible refine Kd.C_drewN ?_ _) | (with_reducible refine Kd.C_drew ?_))); (case side4 => exact HC1.out); rintro e w14 ⟨v267, rfl, ho0, hb⟩; refine ⟨_, rfl, ?_⟩; have n0_ := zh (Kd.S_elder' (zS HO_6) (Kd.R_base ho0) hb); have n1_ := zh (Kd.R_lower ho0 (below_size zb)); have n2_ := zh (blk_below (g := gb265) (o := .cells #[.int .i64 a0_0, .int .i64 a0_1, .int .i64 a0_2, .slice A0_3 l0_3.length c0_3] 24 (0, 0)) (zc BK265) hb); have n3_ := zh (below_step zb hb); clear HO_6; clear BK265; clear HB; have HO_6 := n0_; have HO268 := n1_; have BK265 := n2_; have HB := n3_; clear n0_ n1_ n2_ n3_; (try clear hb); (try clear hb2); (try clear hk); (try clear hi); (try clear ho0); obtain ⟨Ao16, co16, eo16⟩ := Kd.R_slice HO268.out; subst eo16) | ((with_reducible refine gate_builtin (b := .append) (xs := #[.tmp 27, .tmp 29]) rfl ?_); (try (refine gate_guard (by rfl) ?_; dsimp only)); at_builtin; refine Kd.S_append (Kd.slice 61 k61) (w0 := w) w.heap.size rfl (.tmp 27) (.tmp 29) 99 44 (.slice none 0 0) 24 rfl Tryd.underlying99 info44 rfl (by decide) (by omega) u6 x6_1 t266 [.slice Ao16 t266.length co16] (fun _ => True) (fun k_ => some k_ = (.slice Ao16 t266.length co16 : Value).ownBlock) rfl rfl ?aP (fun k_ hk_ => ((Kd.R_mono (ok' := fun k_ => ((fun _ => True)) k_ ∧ some k_ ≠ (u6 : Value).ownBlock) (Kd.R_apart' (HO268.out) (Kd.S_typed HO_6.out) (by decide)) (fun k_ hk => ⟨trivial, hk.2⟩))).1 k_ hk_.symm) ?aF ?aO ?aB ?aS ?aL ?_; (case aP => exact Kd.M_row (Kd.R_mono (Kd.R_tight rfl (Kd.R_mono (ok' := fun k_ => ((fun _ => True)) k_ ∧ some k_ ≠ (u6 : Value).ownBlock) (Kd.R_apart' (HO268.out) (Kd.S_typed HO_6.out) (by decide)) (fun k_ hk => ⟨trivial, hk.2⟩))) (fun _ h_ => h_))); (case aB => exact zb); (case aF => exact (fun _ _ => trivial)); (case aO => exact (by (with_reducible repeat (first | apply Kd.S_alloc | apply Kd.S_drewN | apply Kd.S_drew)); exact Kd.S_mono HO_6.out (fun k_ hk => ⟨trivial, fun e_ => hk.2 e_⟩))); (case aS => exact (below_size zb)); (case aL => have := LMc12.out; omega); intro v273 w15 ho hb hg hat; rw [← Ny272.out] at ho; have n0_ := zh (blk_grown (g := gb265) (o := .cells #[.int .i64 a0_0, .int .i64 a0_1, .int .i64 a0_2, .slice A0_3 l0_3.length c0_3] 24 (0, 0)) (zc BK265) hg (Kd.S_ne HO_6.out BK265.out (by decide))); have n1_ := zh (hb); have n2_ := zh (ho); clear BK265; clear HB; clear HO_6; clear HO268; have BK265 := n0_; have HB := n1_; have HO274 := n2_; clear n0_ n1_ n2_; clear ho hb hg hat))
      go_roundg k1
      case measure => have := HK1.out; omega
      case rel => exact ⟨(y272), (false), (wrap64 (x8_1 + 1)), ze, ze, H', ⟨by have := HK1.out; omega⟩, ⟨zS HO274⟩, ⟨zc BK265⟩, ⟨zb⟩⟩
     ·rw [if_neg c12] at H
      exact absurd H (by simp)
   ·rw [if_neg c4] at H
    have c4b0 : decide (x8_1 < (wrap64 (Int.tdiv a0_2 2))) = false := decide_eq_false c4
    clear c4
    simp only [Option.some.injEq, Prod.mk.injEq] at H
    obtain ⟨rfl, rfl⟩ := H
    have hcz17_0 : wr.cell? ⟨gb265, 0, none⟩ = some (.int .i64 a0_0) := vb BK265 0
    have hcz17_1 : wr.cell? ⟨gb265, 1, none⟩ = some (.int .i64 a0_1) := vb BK265 1
    have hcz17_2 : wr.cell? ⟨gb265, 2, none⟩ = some (.int .i64 a0_2) := vb BK265 2
    have hcz17_3 : wr.cell? ⟨gb265, 3, none⟩ = some (.slice A0_3 l0_3.length c0_3) := vb BK265 3
    have hfz17_0 := blk_frozen BK265.out 0
    have hfz17_1 := blk_frozen BK265.out 1
    have hfz17_2 := blk_frozen BK265.out 2
    have hfz17_3 := blk_frozen BK265.out 3
    go_wp2
    go_ret2
    exact ⟨_, zf, (zS HO_6), zb⟩
end Go.Proofs.YtagkfkdoibnhfaaDoor.H
end
section
namespace Go.Proofs.YtagkfkdoibnhfaaDoor.H
open Go.RowKit Go.Proofs.YtagkfkdoibnhfaaDoorW.PrintWords Go.Proofs.YtagkfkdoibnhfaaDoorW.PrintLast Go.Proofs.YtagkfkdoibnhfaaDoorW.PrintMore
attribute [local go_sem] max2_int min2_int max_two min_two max_three min_three max_four min_four   -- for this text's walks alone
set_option linter.unusedVariables false
set_option linter.unusedSimpArgs false
def saronref06_size.f (k : Nat) (a0_0 : Int) (a0_1 : Int) (a0_2 : Int) (l0_3 : List (S66)) (a1 : Int) : Option (Int) := (saronref06_bar.f k a0_0 a0_1 a0_2 l0_3 a1 0 0).bind fun t238 => (some (t238.length : Int))
set_option maxHeartbeats 8000000 in
set_option maxRecDepth 100000 in
theorem saronref06_size.calls (k : Nat) (a0_0 : Int) (a0_1 : Int) (a0_2 : Int) (A0_3 : Option Addr) (c0_3 : Nat) (l0_3 : List (S66)) (a1 : Int) (r : Int) (w : World) (hr0_3 : Kd.C k66 w A0_3 l0_3.length l0_3) (hc0_3 : l0_3.length ≤ c0_3) (h : saronref06_size.f k a0_0 a0_1 a0_2 l0_3 a1 = some r) :
  Calls Tryd.prog 71 #[.agg #[.int .i64 a0_0, .int .i64 a0_1, .int .i64 a0_2, .slice A0_3 l0_3.length c0_3], .int .i64 a1] w fun e w' => e = .returned (.int .i64 r) ∧ Below w.heap.size w w' := by
 have hu24 := Tryd.underlying24
 have HR0_3 := zh hr0_3
 have HC0_3 := zh hc0_3
 clear hr0_3 hc0_3
 have HB := zh (Below.refl w.heap.size w)
 have H : ((saronref06_bar.f k a0_0 a0_1 a0_2 l0_3 a1 0 0).bind fun t238 => (some (t238.length : Int))) = some r := h
 clear h
 replace H := Option.bind_eq_some_iff.mp H
 obtain ⟨t238, A30, H⟩ := H
 replace H : (some (t238.length : Int)) = some r := H
 have A3 := zh A30
 clear A30
 obtain rfl := Option.some.inj H
 go_enter Tryd.func71, Tryd.ntmps71
 go_wp2_with (first | ((with_reducible refine gate_dst (N := 2) rfl ?_); refine box_event ?hg (N := 2) ?hd (cs := #[.int .i64 a0_0, .int .i64 a0_1, .int .i64 a0_2, .slice A0_3 l0_3.length c0_3]) (t := 24) ?hr ?_; (case hd => rfl); (case hg => rfl); (case hr => first | (go_simp; done) | (go_simp; rfl)); intro gb237 hg w4 hbox hb; have n0_ := zh (below_step zb hb); have n1_ := zh (hbox); have n2_ := zh ((by rw [hg]; exact (below_size zb) : w.heap.size ≤ gb237)); have n3_ := zh ((by rw [hg]; exact (below_size zb) : w.heap.size ≤ gb237)); clear HB; have HB := n0_; have BK237 := n1_; have GW237 := n2_; have GE237 := n3_; clear n0_ n1_ n2_ n3_; clear hb hbox hg; have hcz5_0 : w4.cell? ⟨gb237, 0, none⟩ = some (.int .i64 a0_0) := vb BK237 0; have hcz5_1 : w4.cell? ⟨gb237, 1, none⟩ = some (.int .i64 a0_1) := vb BK237 1; have hcz5_2 : w4.cell? ⟨gb237, 2, none⟩ = some (.int .i64 a0_2) := vb BK237 2; have hcz5_3 : w4.cell? ⟨gb237, 3, none⟩ = some (.slice A0_3 l0_3.length c0_3) := vb BK237 3; have hfz5_0 := blk_frozen BK237.out 0; have hfz5_1 := blk_frozen BK237.out 1; have hfz5_2 := blk_frozen BK237.out 2; have hfz5_3 := blk_frozen BK237.out 3) | ((with_reducible refine gate_callee (f := 81) rfl ?_); refine goesL_ (some 7) rfl rfl Tryd.func81 zk rfl #[.agg #[.int .i64 a0_0, .int .i64 a0_1, .int .i64 a0_2, .slice A0_3 l0_3.length c0_3], .int .i64 a1, .int .i64 0, .int .i64 0] rfl zm ?_; (with_reducible refine (saronref06_bar.calls k a0_0 a0_1 a0_2 _ _ l0_3 a1 0 0 t238 _ ?side1 ?side2 A3.out).mono ?_); (case side1 => repeat (first | exact (Kd.C_below HR0_3.out HB.out) | (with_reducible refine Kd.C_alloc ?_ _) | (with_reducible refine Kd.C_drewN ?_ _) | (with_reducible refine Kd.C_drew ?_))); (case side2 => exact HC0_3.out); rintro e w6 ⟨v239, rfl, ho0, hb⟩; refine ⟨_, rfl, ?_⟩; have n0_ := zh (Kd.R_lower ho0 (below_size zb)); have n1_ := zh (blk_below (g := gb237) (o := .cells #[.int .i64 a0_0, .int .i64 a0_1, .int .i64 a0_2, .slice A0_3 l0_3.length c0_3] 24 (0, 0)) (zc BK237) hb); have n2_ := zh (below_step zb hb); clear BK237; clear HB; have HO240 := n0_; have BK237 := n1_; have HB := n2_; clear n0_ n1_ n2_; (try clear hb); (try clear hb2); (try clear hk); (try clear hi); (try clear ho0); obtain ⟨Ao7, co7, eo7⟩ := Kd.R_slice HO240.out; subst eo7))
 go_ret
 exact ⟨zf, zb⟩
end Go.Proofs.YtagkfkdoibnhfaaDoor.H
end
section
namespace Go.Proofs.YtagkfkdoibnhfaaDoor.H
open Go.RowKit Go.Proofs.YtagkfkdoibnhfaaDoorW.PrintWords Go.Proofs.YtagkfkdoibnhfaaDoorW.PrintLast Go.Proofs.YtagkfkdoibnhfaaDoorW.PrintMore
attribute [local go_sem] max2_int min2_int max_two min_two max_three min_three max_four min_four   -- for this text's walks alone
set_option linter.unusedVariables false
set_option linter.unusedSimpArgs false
mutual
def saronref06_asked.l0 : Nat → List (S60) → Bool → Int → Int → Int → Int → List (S66) → Option (Int)
 | 0, _, _, _, _, _, _, _ => none
 | k + 1, x1, x6, x7, x242000, x242001, x242002, x242003 => if x6 = true then (saronref06_asked.j1 k x1 x6 x7 (decide (x7 < (x1.length : Int))) x242000 x242001 x242002 x242003) else (saronref06_asked.j1 k x1 x6 x7 false x242000 x242001 x242002 x242003)
def saronref06_asked.j1 : Nat → List (S60) → Bool → Int → Bool → Int → Int → Int → List (S66) → Option (Int)
 | 0, _, _, _, _, _, _, _, _ => none
 | k + 1, x1, x6, x7, x24, x242000, x242001, x242002, x242003 => if x24 = true then (if 0 ≤ x7 then (if x7 < (x1.length : Int) then ((saronref00_Sits.f ((rd_T60 x1 x7).f0) 0 (wrap64 ((x242003.length : Int) - 1))).bind fun t246 => (if t246 = true then ((saronref06_size.f k x242000 x242001 x242002 x242003 ((rd_T60 x1 x7).f0)).bind fun t247 => (saronref06_asked.j2 k x1 ((((rd_T60 x1 x7).f1).length : Int) == (wrap64 ((wrap64 (Int.tdiv x242002 2)) * t247))) x7 x242000 x242001 x242002 x242003 ((rd_T60 x1 x7).f0) ((rd_T60 x1 x7).f1))) else (saronref06_asked.j2 k x1 false x7 x242000 x242001 x242002 x242003 ((rd_T60 x1 x7).f0) ((rd_T60 x1 x7).f1)))) else (none)) else (none)) else (if x6 = true then (some 0) else (some 61))
def saronref06_asked.j2 : Nat → List (S60) → Bool → Int → Int → Int → Int → List (S66) → Int → List Int → Option (Int)
 | 0, _, _, _, _, _, _, _, _, _ => none
 | k + 1, x1, x6, x7, x242000, x242001, x242002, x242003, x246000, x246001 => saronref06_asked.l1 k x1 x6 x7 0 x242000 x242001 x242002 x242003 x246000 x246001
def saronref06_asked.l1 : Nat → List (S60) → Bool → Int → Int → Int → Int → Int → List (S66) → Int → List Int → Option (Int)
 | 0, _, _, _, _, _, _, _, _, _, _ => none
 | k + 1, x1, x6, x7, x9, x242000, x242001, x242002, x242003, x246000, x246001 => if x6 = true then (if x9 < (x246001.length : Int) then (if 0 ≤ x9 then ((saronref00_Sits.f (rd x246001 x9) (-2) 40).bind fun t249 => (saronref06_asked.l1 k x1 t249 x7 (wrap64 (x9 + 1)) x242000 x242001 x242002 x242003 x246000 x246001)) else (none)) else (saronref06_asked.l0 k x1 x6 (wrap64 (x7 + 1)) x242000 x242001 x242002 x242003)) else (saronref06_asked.l0 k x1 x6 (wrap64 (x7 + 1)) x242000 x242001 x242002 x242003)
end
def saronref06_asked.f (k : Nat) (a0_0 : Int) (a0_1 : Int) (a0_2 : Int) (l0_3 : List (S66)) (l1 : List (S60)) : Option (Int) := (saronref06_Check.f k a0_0 a0_1 a0_2 l0_3).bind fun t242 => (if t242 = 0 then ((saronref00_Sits.f (l1.length : Int) 1 5).bind fun t243 => (saronref06_asked.l0 k l1 t243 0 a0_0 a0_1 a0_2 l0_3)) else (some t242))
def saronref06_asked.T9 : Bool × List (List Nat × List Nat) := (true, [([], []), ([0], [0]), ([], []), ([2], [2]), ([3], [3]), ([4], [4]), ([1, 5], [1, 5]), ([6, 6], [6]), ([7], [7]), ([8, 7], [7, 8]), ([9, 7], [7, 9]), ([7], [7]), ([11, 7], [7, 11]), ([12, 7], [7, 12]), ([7], [7]), ([7], [7]), ([15, 7], [7, 15]), ([14, 16, 7, 7], [7, 14, 16]), ([13, 17, 7], [7, 13, 17]), ([10, 18, 7], [7, 10, 18]), ([7, 19], [7, 19]), ([20, 17, 0, 1, 2, 3, 4, 5, 6, 7, 8, 9, 10, 11, 12, 13, 14, 15, 16, 17, 18, 19, 20], [20])])
def saronref06_asked.B9 : List Nat := [0, 1, 0, 4, 12, 28, 63, 127, 255, 511, 1023, 255, 2303, 6399, 255, 255, 33023, 114943, 260351, 524287, 1048575, 2097151]
theorem saronref06_asked.tab9 : rtab .any (opsOf Tryd.f66 9) = saronref06_asked.T9 := by kernel_rfl
theorem saronref06_asked.bits9 : waitsOk saronref06_asked.T9.2 saronref06_asked.B9 = true := by kernel_rfl
set_option maxHeartbeats 8000000 in
set_option maxRecDepth 100000 in
theorem saronref06_asked.calls (k : Nat) (a0_0 : Int) (a0_1 : Int) (a0_2 : Int) (A0_3 : Option Addr) (c0_3 : Nat) (l0_3 : List (S66)) (A1 : Option Addr) (c1 : Nat) (l1 : List (S60)) (r : Int) (w : World) (hr0_3 : Kd.C k66 w A0_3 l0_3.length l0_3) (hc0_3 : l0_3.length ≤ c0_3) (hr1 : Kd.C k60 w A1 l1.length l1) (hc1 : l1.length ≤ c1) (h : saronref06_asked.f k a0_0 a0_1 a0_2 l0_3 l1 = some r) :
  Calls Tryd.prog 66 #[.agg #[.int .i64 a0_0, .int .i64 a0_1, .int .i64 a0_2, .slice A0_3 l0_3.length c0_3], .slice A1 l1.length c1] w fun e w' => e = .returned (.int .i64 r) ∧ Below w.heap.size w w' := by
 have hu24 := Tryd.underlying24
 have hu60 := Tryd.underlying60
 have HR0_3 := zh hr0_3
 have HC0_3 := zh hc0_3
 clear hr0_3 hc0_3
 have HR1 := zh hr1
 have HC1 := zh hc1
 clear hr1 hc1
 have HB := zh (Below.refl w.heap.size w)
 have H : ((saronref06_Check.f k a0_0 a0_1 a0_2 l0_3).bind fun t242 => (if t242 = 0 then ((saronref00_Sits.f (l1.length : Int) 1 5).bind fun t243 => (saronref06_asked.l0 k l1 t243 0 a0_0 a0_1 a0_2 l0_3)) else (some t242))) = some r := h
 clear h
 replace H := Option.bind_eq_some_iff.mp H
 obtain ⟨t242, A30, H⟩ := H
 replace H : (if t242 = 0 then ((saronref00_Sits.f (l1.length : Int) 1 5).bind fun t243 => (saronref06_asked.l0 k l1 t243 0 a0_0 a0_1 a0_2 l0_3)) else (some t242)) = some r := H
 have A3 := zh A30
 clear A30
 by_cases c4 : t242 = 0
 ·rw [if_pos c4] at H
  have c4b0 : (t242 == 0) = true := beq_iff_eq.mpr c4
  have c4b1 : (t242 != 0) = false := bne_eq_false_iff_eq.mpr c4
  clear c4
  replace H := Option.bind_eq_some_iff.mp H
  obtain ⟨t243, A50, H⟩ := H
  replace H : (saronref06_asked.l0 k l1 t243 0 a0_0 a0_1 a0_2 l0_3) = some r := H
  have A5 := zh A50
  clear A50
  have H' := zh H
  clear H
  go_enter Tryd.func66, Tryd.ntmps66
  go_wp2_with (first | ((with_reducible refine gate_dst (N := 2) rfl ?_); (try (refine gate_guard (by rfl) ?_; dsimp only)); refine box_event ?hg (N := 2) ?hd (cs := #[.int .i64 a0_0, .int .i64 a0_1, .int .i64 a0_2, .slice A0_3 l0_3.length c0_3]) (t := 24) ?hr ?_; (case hd => rfl); (case hg => rfl); (case hr => first | (go_simp; done) | (go_simp; rfl)); intro gb241 hg w6 hbox hb; have n0_ := zh (below_step zb hb); have n1_ := zh (hbox); have n2_ := zh ((by rw [hg]; exact (below_size zb) : w.heap.size ≤ gb241)); have n3_ := zh ((by rw [hg]; exact (below_size zb) : w.heap.size ≤ gb241)); clear HB; have HB := n0_; have BK241 := n1_; have GW241 := n2_; have GE241 := n3_; clear n0_ n1_ n2_ n3_; clear hb hbox hg; have hcz7_0 : w6.cell? ⟨gb241, 0, none⟩ = some (.int .i64 a0_0) := vb BK241 0; have hcz7_1 : w6.cell? ⟨gb241, 1, none⟩ = some (.int .i64 a0_1) := vb BK241 1; have hcz7_2 : w6.cell? ⟨gb241, 2, none⟩ = some (.int .i64 a0_2) := vb BK241 2; have hcz7_3 : w6.cell? ⟨gb241, 3, none⟩ = some (.slice A0_3 l0_3.length c0_3) := vb BK241 3; have hfz7_0 := blk_frozen BK241.out 0; have hfz7_1 := blk_frozen BK241.out 1; have hfz7_2 := blk_frozen BK241.out 2; have hfz7_3 := blk_frozen BK241.out 3) | ((with_reducible refine gate_callee (f := 20) rfl ?_); refine goesL_ (some 11) rfl rfl Tryd.func20 zk rfl #[.agg #[.int .i64 a0_0, .int .i64 a0_1, .int .i64 a0_2, .slice A0_3 l0_3.length c0_3]] rfl zm ?_; (with_reducible refine (saronref06_Check.calls k a0_0 a0_1 a0_2 _ _ l0_3 t242 _ ?side1 ?side2 A3.out).mono ?_); (case side1 => repeat (first | exact (Kd.C_below HR0_3.out HB.out) | (with_reducible refine Kd.C_alloc ?_ _) | (with_reducible refine Kd.C_drewN ?_ _) | (with_reducible refine Kd.C_drew ?_))); (case side2 => exact HC0_3.out); rintro e w8 ⟨rfl, hb⟩; refine ⟨_, rfl, ?_⟩; have n0_ := zh (blk_below (g := gb241) (o := .cells #[.int .i64 a0_0, .int .i64 a0_1, .int .i64 a0_2, .slice A0_3 l0_3.length c0_3] 24 (0, 0)) (zc BK241) hb); have n1_ := zh (below_step zb hb); clear BK241; clear HB; have BK241 := n0_; have HB := n1_; clear n0_ n1_; (try clear hb); (try clear hb2); (try clear hk); (try clear hi)) | ((with_reducible refine gate_callee (f := 45) rfl ?_); refine goesL_ (some 17) rfl rfl Tryd.func45 zk rfl #[.int .i64 (l1.length : Int), .int .i64 1, .int .i64 5] rfl zm ?_; (with_reducible refine (saronref00_Sits.calls (l1.length : Int) 1 5 t243 _ A5.out).mono ?_); rintro e w' ⟨rfl, ⟨nd, rfl⟩⟩; refine ⟨_, rfl, ?_⟩))
  go_loopg [6, 7] k (fun kq v6 v7 w' => ∃ (x6_1 : Bool) (x7_1 : Int), v6 = .bool x6_1 ∧ v7 = .int .i64 x7_1 ∧ Aside0 (saronref06_asked.l0 kq l1 x6_1 x7_1 a0_0 a0_1 a0_2 l0_3 = some r) ∧ Aside0 (kq ≤ k) ∧ Aside0 (w'.heap[gb241]? = some (.cells #[.int .i64 a0_0, .int .i64 a0_1, .int .i64 a0_2, (.slice A0_3 l0_3.length c0_3)] 24 (0, 0))) ∧ Aside0 (Below w.heap.size w w'))
  case atStart => exact ⟨(t243), (0), ze, ze, H', ⟨Nat.le_refl _⟩, ⟨zc BK241⟩, ⟨zb⟩⟩
  case round =>
   clear H'
   try clear c1
   try clear c2
   try clear p2
   try clear c4
   try clear c4b0
   try clear c4b1
   try clear c6
   try clear hcz7_0
   try clear hcz7_1
   try clear hcz7_2
   try clear hcz7_3
   try clear hfz7_0
   try clear hfz7_1
   try clear hfz7_2
   try clear hfz7_3
   obtain ⟨x6_1, x7_1, rfl, rfl, HA, HK1, BK241, HB⟩ := hrel
   cases gk with
   | zero => exact absurd HA.out (by simp [saronref06_asked.l0])
   | succ k1 =>
    have H := HA.out
    clear HA
    simp only [saronref06_asked.l0] at H
    have HC9 := zh H
    clear H
    go_upto_region 6 with (fail)
    go_cut [24] (fun v24 wc => ∃ (kq : Nat) (x24_8 : Bool), v24 = .bool x24_8 ∧ Aside0 (saronref06_asked.j1 kq l1 x6_1 x7_1 x24_8 a0_0 a0_1 a0_2 l0_3 = some r) ∧ Aside0 (kq ≤ k1) ∧ Aside0 (wc.heap[gb241]? = some (.cells #[.int .i64 a0_0, .int .i64 a0_1, .int .i64 a0_2, (.slice A0_3 l0_3.length c0_3)] 24 (0, 0))) ∧ Aside0 (Below w.heap.size w wc))
    case first =>
     have H := HC9.out
     clear HC9
     by_cases c10 : x6_1 = true
     ·subst c10
      have H1 : (saronref06_asked.j1 k1 l1 true x7_1 (decide (x7_1 < (l1.length : Int))) a0_0 a0_1 a0_2 l0_3) = some r := by rw [if_pos rfl] at H; exact H
      clear H
      have H := H1
      clear H1
      have H' := zh H
      clear H
      go_wp2
      go_meet
      case rel => exact ⟨_, (decide (x7_1 < (l1.length : Int))), ze, H', ⟨by have := HK1.out; first | omega | exact Nat.le_refl _⟩, ⟨zc BK241⟩, ⟨zb⟩⟩
     ·replace c10 := Bool.eq_false_iff.mpr c10
      subst c10
      have H1 : (saronref06_asked.j1 k1 l1 false x7_1 false a0_0 a0_1 a0_2 l0_3) = some r := by rw [if_neg (show ¬ (false = true) by decide)] at H; exact H
      clear H
      have H := H1
      clear H1
      have H' := zh H
      clear H
      go_wp2
      go_meet
      case rel => exact ⟨_, (false), ze, H', ⟨by have := HK1.out; first | omega | exact Nat.le_refl _⟩, ⟨zc BK241⟩, ⟨zb⟩⟩
    case rest =>
     clear HC9
     try clear c1
     try clear c2
     try clear p2
     try clear c4
     try clear c4b0
     try clear c4b1
     try clear c6
     try clear c10
     try clear hcz7_0
     try clear hcz7_1
     try clear hcz7_2
     try clear hcz7_3
     try clear hfz7_0
     try clear hfz7_1
     try clear hfz7_2
     try clear hfz7_3
     try clear p2
     obtain ⟨kq, x24_8, rfl, HA, HJ8, BK241, HB⟩ := hcut
     cases kq with
     | zero => exact absurd HA.out (by simp [saronref06_asked.j1])
     | succ kj8 =>
      have H := HA.out
      clear HA
      simp only [saronref06_asked.j1] at H
      by_cases c11 : x24_8 = true
      ·subst c11
       have H1 : (if 0 ≤ x7_1 then (if x7_1 < (l1.length : Int) then ((saronref00_Sits.f ((rd_T60 l1 x7_1).f0) 0 (wrap64 ((l0_3.length : Int) - 1))).bind fun t246 => (if t246 = true then ((saronref06_size.f kj8 a0_0 a0_1 a0_2 l0_3 ((rd_T60 l1 x7_1).f0)).bind fun t247 => (saronref06_asked.j2 kj8 l1 ((((rd_T60 l1 x7_1).f1).length : Int) == (wrap64 ((wrap64 (Int.tdiv a0_2 2)) * t247))) x7_1 a0_0 a0_1 a0_2 l0_3 ((rd_T60 l1 x7_1).f0) ((rd_T60 l1 x7_1).f1))) else (saronref06_asked.j2 kj8 l1 false x7_1 a0_0 a0_1 a0_2 l0_3 ((rd_T60 l1 x7_1).f0) ((rd_T60 l1 x7_1).f1)))) else (none)) else (none)) = some r := by rw [if_pos rfl] at H; exact H
       clear H
       have H := H1
       clear H1
       by_cases c12 : 0 ≤ x7_1
       ·rw [if_pos c12] at H
        have c12b0 : decide (0 ≤ x7_1) = true := decide_eq_true c12
        clear c12
        by_cases c13 : x7_1 < (l1.length : Int)
        ·rw [if_pos c13] at H
         have c13b0 : decide (x7_1 < (l1.length : Int)) = true := decide_eq_true c13
         clear c13
         have HC14 := zh H
         clear H
         have p244 : 0 ≤ (x7_1 : Int) := of_decide_eq_true zs
         have q244 : x7_1 < (l1.length : Int) := of_decide_eq_true zs
         obtain ⟨ad244, A244_1, c244_1, e244, hx244_0, hx244_1, hl244_1, hi244_1⟩ := at_T60 HR1.out x7_1 p244 q244
         cases e244
         replace hx244_0 := ve HB.out hx244_0
         replace hx244_1 := ve HB.out hx244_1
         have HR244_1 := zh hi244_1
         have HC244_1 := zh hl244_1
         clear hi244_1 hl244_1
         replace p244 := eq_true p244
         replace q244 := eq_true q244
         go_upto_region 9 with (first | ((with_reducible refine gate_dst (N := 8) rfl ?_); (try (refine gate_guard (by rfl) ?_; dsimp only)); refine box_event ?hg (N := 8) ?hd (cs := #[.int .i64 0, .slice none 0 0]) (t := 60) ?hr ?_; (case hd => rfl); (case hg => rfl); (case hr => first | (go_simp; done) | (go_simp; rfl)); intro gb245 hg w15 hbox hb; have n0_ := zh (blk_below (g := gb241) (o := .cells #[.int .i64 a0_0, .int .i64 a0_1, .int .i64 a0_2, .slice A0_3 l0_3.length c0_3] 24 (0, 0)) (zc BK241) hb); have n1_ := zh (below_step zb hb); have n2_ := zh (hbox); have n3_ := zh ((by rw [hg]; exact (below_size zb) : w.heap.size ≤ gb245)); have n4_ := zh ((by rw [hg]; exact (below_size zb) : w.heap.size ≤ gb245)); have n5_ := zh ((by rw [hg]; exact Nat.ne_of_lt (blk_lt (g := gb241) (o := .cells #[.int .i64 a0_0, .int .i64 a0_1, .int .i64 a0_2, .slice A0_3 l0_3.length c0_3] 24 (0, 0)) (zc BK241)) : gb241 ≠ gb245)); have n6_ := zh ((by rw [hg]; exact Nat.ne_of_gt (blk_lt (g := gb241) (o := .cells #[.int .i64 a0_0, .int .i64 a0_1, .int .i64 a0_2, .slice A0_3 l0_3.length c0_3] 24 (0, 0)) (zc BK241)) : gb245 ≠ gb241)); clear BK241; clear HB; have BK241 := n0_; have HB := n1_; have BK245 := n2_; have GW245 := n3_; have GE245 := n4_; have NB241_245 := n5_; have NB245_241 := n6_; clear n0_ n1_ n2_ n3_ n4_ n5_ n6_; clear hb hbox hg; have hnb16 := NB245_241.out; have hnc16 := NB241_245.out; have hcz17_0 : w15.cell? ⟨gb245, 0, none⟩ = some (.int .i64 0) := vb BK245 0; have hcz17_1 : w15.cell? ⟨gb245, 1, none⟩ = some (.slice none 0 0) := vb BK245 1; have hfz17_0 := blk_frozen BK245.out 0; have hfz17_1 := blk_frozen BK245.out 1))
         (try simp only [Act.put, List.setIfInBounds_toArray, List.set_cons_zero, List.set_cons_succ])
         go_cut [6] (fun v6 wc => ∃ (kq : Nat) (x6_13 : Bool), v6 = .bool x6_13 ∧ Aside0 (saronref06_asked.j2 kq l1 x6_13 x7_1 a0_0 a0_1 a0_2 l0_3 ((rd_T60 l1 x7_1).f0) ((rd_T60 l1 x7_1).f1) = some r) ∧ Aside0 (kq ≤ kj8) ∧ Aside0 (wc.heap[gb241]? = some (.cells #[.int .i64 a0_0, .int .i64 a0_1, .int .i64 a0_2, (.slice A0_3 l0_3.length c0_3)] 24 (0, 0))) ∧ Aside0 (wc.heap[gb245]? = some (.cells #[.int .i64 ((rd_T60 l1 x7_1).f0), (.slice A244_1 ((rd_T60 l1 x7_1).f1).length c244_1)] 60 (0, 0))) ∧ Aside0 (Below w.heap.size w wc))
         case first =>
          have H := HC14.out
          clear HC14
          replace H := Option.bind_eq_some_iff.mp H
          obtain ⟨t246, A180, H⟩ := H
          replace H : (if t246 = true then ((saronref06_size.f kj8 a0_0 a0_1 a0_2 l0_3 ((rd_T60 l1 x7_1).f0)).bind fun t247 => (saronref06_asked.j2 kj8 l1 ((((rd_T60 l1 x7_1).f1).length : Int) == (wrap64 ((wrap64 (Int.tdiv a0_2 2)) * t247))) x7_1 a0_0 a0_1 a0_2 l0_3 ((rd_T60 l1 x7_1).f0) ((rd_T60 l1 x7_1).f1))) else (saronref06_asked.j2 kj8 l1 false x7_1 a0_0 a0_1 a0_2 l0_3 ((rd_T60 l1 x7_1).f0) ((rd_T60 l1 x7_1).f1))) = some r := H
          have A18 := zh A180
          clear A180
          by_cases c19 : t246 = true
          ·subst c19
           have H1 : ((saronref06_size.f kj8 a0_0 a0_1 a0_2 l0_3 ((rd_T60 l1 x7_1).f0)).bind fun t247 => (saronref06_asked.j2 kj8 l1 ((((rd_T60 l1 x7_1).f1).length : Int) == (wrap64 ((wrap64 (Int.tdiv a0_2 2)) * t247))) x7_1 a0_0 a0_1 a0_2 l0_3 ((rd_T60 l1 x7_1).f0) ((rd_T60 l1 x7_1).f1))) = some r := by rw [if_pos rfl] at H; exact H
           clear H
           have H := H1
           clear H1
           replace H := Option.bind_eq_some_iff.mp H
           obtain ⟨t247, A200, H⟩ := H
           replace H : (saronref06_asked.j2 kj8 l1 ((((rd_T60 l1 x7_1).f1).length : Int) == (wrap64 ((wrap64 (Int.tdiv a0_2 2)) * t247))) x7_1 a0_0 a0_1 a0_2 l0_3 ((rd_T60 l1 x7_1).f0) ((rd_T60 l1 x7_1).f1)) = some r := H
           have A20 := zh A200
           clear A200
           have H' := zh H
           clear H
           try go_wp2
           have n0_ : Aside0 (((w15.setCell ⟨gb245, 0, none⟩ (.int .i64 ((rd_T60 l1 x7_1).f0))).setCell ⟨gb245, 1, none⟩ (.slice A244_1 ((rd_T60 l1 x7_1).f1).length c244_1)).heap[gb241]? = some (.cells #[.int .i64 a0_0, .int .i64 a0_1, .int .i64 a0_2, .slice A0_3 l0_3.length c0_3] 24 (0, 0))) := ⟨by (with_reducible repeat (first | refine blk_drewN ?_ _ | refine blk_drew ?_ | refine blk_alloc ?_ _)); refine blk_far ?_ NB241_245.out _; (with_reducible repeat (first | refine blk_drewN ?_ _ | refine blk_drew ?_ | refine blk_alloc ?_ _)); refine blk_far ?_ NB241_245.out _; (with_reducible repeat (first | refine blk_drewN ?_ _ | refine blk_drew ?_ | refine blk_alloc ?_ _)); exact BK241.out⟩
           have n1_ : Aside0 (((w15.setCell ⟨gb245, 0, none⟩ (.int .i64 ((rd_T60 l1 x7_1).f0))).setCell ⟨gb245, 1, none⟩ (.slice A244_1 ((rd_T60 l1 x7_1).f1).length c244_1)).heap[gb245]? = some (.cells #[.int .i64 ((rd_T60 l1 x7_1).f0), .slice A244_1 ((rd_T60 l1 x7_1).f1).length c244_1] 60 (0, 0))) := ⟨by (with_reducible repeat (first | refine blk_drewN ?_ _ | refine blk_drew ?_ | refine blk_alloc ?_ _)); refine blk_put (cs := #[.int .i64 ((rd_T60 l1 x7_1).f0), .slice none 0 0]) ?_ 1 _ rfl; (with_reducible repeat (first | refine blk_drewN ?_ _ | refine blk_drew ?_ | refine blk_alloc ?_ _)); refine blk_put (cs := #[.int .i64 0, .slice none 0 0]) ?_ 0 _ rfl; (with_reducible repeat (first | refine blk_drewN ?_ _ | refine blk_drew ?_ | refine blk_alloc ?_ _)); exact BK245.out⟩
           have n2_ : Aside0 (Below w.heap.size w ((w15.setCell ⟨gb245, 0, none⟩ (.int .i64 ((rd_T60 l1 x7_1).f0))).setCell ⟨gb245, 1, none⟩ (.slice A244_1 ((rd_T60 l1 x7_1).f1).length c244_1))) := ⟨zb⟩
           (try clear BK241)
           (try clear BK245)
           (try clear HB)
           generalize ((w15.setCell ⟨gb245, 0, none⟩ (.int .i64 ((rd_T60 l1 x7_1).f0))).setCell ⟨gb245, 1, none⟩ (.slice A244_1 ((rd_T60 l1 x7_1).f1).length c244_1)) = w21 at n0_ n1_ n2_ ⊢
           have BK241 := n0_
           have BK245 := n1_
           have HB := n2_
           clear n0_ n1_ n2_
           replace BK241 := zh (blk_drew BK241.out)
           replace BK245 := zh (blk_drew BK245.out)
           replace HB := zh (below_drew1 HB.out)
           refine start_ (n := 22) (S := fun w' => w'.cell? ⟨gb245, 0, none⟩ = some (.int .i64 ((rd_T60 l1 x7_1).f0)) ∧ w'.cell? ⟨gb245, 1, none⟩ = some (.slice A244_1 ((rd_T60 l1 x7_1).f1).length c244_1) ∧ w'.cell? ⟨gb241, 0, none⟩ = some (.int .i64 a0_0) ∧ w'.cell? ⟨gb241, 1, none⟩ = some (.int .i64 a0_1) ∧ w'.cell? ⟨gb241, 2, none⟩ = some (.int .i64 a0_2) ∧ w'.cell? ⟨gb241, 3, none⟩ = some (.slice A0_3 l0_3.length c0_3)) (ds := []) (Array.replicate 22 false) zk rfl rfl ⟨vb BK245 0, vb BK245 1, vb BK241 0, vb BK241 1, vb BK241 2, vb BK241 3⟩ (fun hHeld => ?_); refine with_tabW saronref06_asked.tab9 saronref06_asked.bits9 (fun HT_ HW_ => ?_)
           generalize w21.drew = w22 at BK241 BK245 HB hHeld ⊢
           refine zu 0 ?_
           refine zu 2 ?_
           refine zt 1 ?_
           refine zt 3 ?_
           refine zu 4 ?_
           refine zu 5 ?_
           refine zo 6 (fun K hK => ?_)
           refine goes_ Tryd.func45 zk rfl #[.int .i64 ((rd_T60 l1 x7_1).f0), .int .i64 0, .int .i64 (wrap64 ((l0_3.length : Int) - 1))] (by rfl) rfl rfl zm ?_
           with_reducible refine (saronref00_Sits.calls ((rd_T60 l1 x7_1).f0) 0 (wrap64 ((l0_3.length : Int) - 1)) true _ A18.out).mono ?_
           rintro e w' ⟨rfl, ⟨nd, rfl⟩⟩
           refine ⟨_, rfl, ?_⟩
           refine hK.out _ _ ⟨vb BK245 0, vb BK245 1, vb BK241 0, vb BK241 1, vb BK241 2, vb BK241 3⟩ (fun hHeld => ?_)
           clear hK K
           refine zr 37 _ ?_
           refine zu 7 ?_
           refine zu 8 ?_
           refine zu 11 ?_
           refine zu 15 ?_
           refine zt 9 ?_
           refine zu 10 ?_
           refine zt 12 ?_
           refine zu 13 ?_
           refine zt 14 ?_
           refine zt 16 ?_
           refine zo 17 (fun K hK => ?_)
           refine goes_ Tryd.func71 zk rfl #[.agg #[.int .i64 a0_0, .int .i64 a0_1, .int .i64 a0_2, .slice A0_3 l0_3.length c0_3], .int .i64 ((rd_T60 l1 x7_1).f0)] (by rfl) rfl rfl zm ?_
           with_reducible refine (saronref06_size.calls kj8 a0_0 a0_1 a0_2 _ _ l0_3 ((rd_T60 l1 x7_1).f0) t247 _ ?side1 ?side2 A20.out).mono ?_
           (case side1 => repeat (first | exact (Kd.C_below HR0_3.out zb) | (with_reducible refine Kd.C_alloc ?_ _) | (with_reducible refine Kd.C_drewN ?_ _) | (with_reducible refine Kd.C_drew ?_)))
           (case side2 => exact HC0_3.out)
           rintro e w23 ⟨rfl, hb⟩
           refine ⟨_, rfl, ?_⟩
           replace BK241 := zh (blk_below (g := gb241) (o := .cells #[.int .i64 a0_0, .int .i64 a0_1, .int .i64 a0_2, .slice A0_3 l0_3.length c0_3] 24 (0, 0)) (zc BK241) hb)
           replace BK245 := zh (blk_below (g := gb245) (o := .cells #[.int .i64 ((rd_T60 l1 x7_1).f0), .slice A244_1 ((rd_T60 l1 x7_1).f1).length c244_1] 60 (0, 0)) (zc BK245) hb)
           replace HB := zh (below_step zb hb)
           (try clear hb)
           (try clear hb2)
           (try clear hk)
           (try clear hi)
           refine hK.out _ _ ⟨vb BK245 0, vb BK245 1, vb BK241 0, vb BK241 1, vb BK241 2, vb BK241 3⟩ (fun hHeld => ?_)
           clear hK K
           refine zr 48 _ ?_
           refine zu 18 ?_
           refine zu 19 ?_
           refine zu 20 ?_
           refine zu 21 ?_
           refine zd ?_
           try go_wp2
           go_meet
           case rel => exact ⟨_, (((((rd_T60 l1 x7_1).f1).length : Int) == (wrap64 ((wrap64 (Int.tdiv a0_2 2)) * t247)))), ze, H', ⟨by have := HK1.out; have := HJ8.out; first | omega | exact Nat.le_refl _⟩, ⟨zc BK241⟩, ⟨zc BK245⟩, ⟨zb⟩⟩
          ·replace c19 := Bool.eq_false_iff.mpr c19
           subst c19
           have H1 : (saronref06_asked.j2 kj8 l1 false x7_1 a0_0 a0_1 a0_2 l0_3 ((rd_T60 l1 x7_1).f0) ((rd_T60 l1 x7_1).f1)) = some r := by rw [if_neg (show ¬ (false = true) by decide)] at H; exact H
           clear H
           have H := H1
           clear H1
           have H' := zh H
           clear H
           try go_wp2
           have n0_ : Aside0 (((w15.setCell ⟨gb245, 0, none⟩ (.int .i64 ((rd_T60 l1 x7_1).f0))).setCell ⟨gb245, 1, none⟩ (.slice A244_1 ((rd_T60 l1 x7_1).f1).length c244_1)).heap[gb241]? = some (.cells #[.int .i64 a0_0, .int .i64 a0_1, .int .i64 a0_2, .slice A0_3 l0_3.length c0_3] 24 (0, 0))) := ⟨by (with_reducible repeat (first | refine blk_drewN ?_ _ | refine blk_drew ?_ | refine blk_alloc ?_ _)); refine blk_far ?_ NB241_245.out _; (with_reducible repeat (first | refine blk_drewN ?_ _ | refine blk_drew ?_ | refine blk_alloc ?_ _)); refine blk_far ?_ NB241_245.out _; (with_reducible repeat (first | refine blk_drewN ?_ _ | refine blk_drew ?_ | refine blk_alloc ?_ _)); exact BK241.out⟩
           have n1_ : Aside0 (((w15.setCell ⟨gb245, 0, none⟩ (.int .i64 ((rd_T60 l1 x7_1).f0))).setCell ⟨gb245, 1, none⟩ (.slice A244_1 ((rd_T60 l1 x7_1).f1).length c244_1)).heap[gb245]? = some (.cells #[.int .i64 ((rd_T60 l1 x7_1).f0), .slice A244_1 ((rd_T60 l1 x7_1).f1).length c244_1] 60 (0, 0))) := ⟨by (with_reducible repeat (first | refine blk_drewN ?_ _ | refine blk_drew ?_ | refine blk_alloc ?_ _)); refine blk_put (cs := #[.int .i64 ((rd_T60 l1 x7_1).f0), .slice none 0 0]) ?_ 1 _ rfl; (with_reducible repeat (first | refine blk_drewN ?_ _ | refine blk_drew ?_ | refine blk_alloc ?_ _)); refine blk_put (cs := #[.int .i64 0, .slice none 0 0]) ?_ 0 _ rfl; (with_reducible repeat (first | refine blk_drewN ?_ _ | refine blk_drew ?_ | refine blk_alloc ?_ _)); exact BK245.out⟩
           have n2_ : Aside0 (Below w.heap.size w ((w15.setCell ⟨gb245, 0, none⟩ (.int .i64 ((rd_T60 l1 x7_1).f0))).setCell ⟨gb245, 1, none⟩ (.slice A244_1 ((rd_T60 l1 x7_1).f1).length c244_1))) := ⟨zb⟩
           (try clear BK241)
           (try clear BK245)
           (try clear HB)
           generalize ((w15.setCell ⟨gb245, 0, none⟩ (.int .i64 ((rd_T60 l1 x7_1).f0))).setCell ⟨gb245, 1, none⟩ (.slice A244_1 ((rd_T60 l1 x7_1).f1).length c244_1)) = w24 at n0_ n1_ n2_ ⊢
           have BK241 := n0_
           have BK245 := n1_
           have HB := n2_
           clear n0_ n1_ n2_
           replace BK241 := zh (blk_drew BK241.out)
           replace BK245 := zh (blk_drew BK245.out)
           replace HB := zh (below_drew1 HB.out)
           refine start_ (n := 22) (S := fun w' => w'.cell? ⟨gb245, 0, none⟩ = some (.int .i64 ((rd_T60 l1 x7_1).f0)) ∧ w'.cell? ⟨gb245, 1, none⟩ = some (.slice A244_1 ((rd_T60 l1 x7_1).f1).length c244_1) ∧ w'.cell? ⟨gb241, 0, none⟩ = some (.int .i64 a0_0) ∧ w'.cell? ⟨gb241, 1, none⟩ = some (.int .i64 a0_1) ∧ w'.cell? ⟨gb241, 2, none⟩ = some (.int .i64 a0_2) ∧ w'.cell? ⟨gb241, 3, none⟩ = some (.slice A0_3 l0_3.length c0_3)) (ds := []) (Array.replicate 22 false) zk rfl rfl ⟨vb BK245 0, vb BK245 1, vb BK241 0, vb BK241 1, vb BK241 2, vb BK241 3⟩ (fun hHeld => ?_); refine with_tabW saronref06_asked.tab9 saronref06_asked.bits9 (fun HT_ HW_ => ?_)
           generalize w24.drew = w25 at BK241 BK245 HB hHeld ⊢
           refine zu 0 ?_
           refine zu 2 ?_
           refine zt 1 ?_
           refine zt 3 ?_
           refine zu 4 ?_
           refine zu 5 ?_
           refine zo 6 (fun K hK => ?_)
           refine goes_ Tryd.func45 zk rfl #[.int .i64 ((rd_T60 l1 x7_1).f0), .int .i64 0, .int .i64 (wrap64 ((l0_3.length : Int) - 1))] (by rfl) rfl rfl zm ?_
           with_reducible refine (saronref00_Sits.calls ((rd_T60 l1 x7_1).f0) 0 (wrap64 ((l0_3.length : Int) - 1)) false _ A18.out).mono ?_
           rintro e w' ⟨rfl, ⟨nd, rfl⟩⟩
           refine ⟨_, rfl, ?_⟩
           refine hK.out _ _ ⟨vb BK245 0, vb BK245 1, vb BK241 0, vb BK241 1, vb BK241 2, vb BK241 3⟩ (fun hHeld => ?_)
           clear hK K
           refine zr 37 _ ?_
           refine zu 7 ?_
           refine zn 8 ?_
           refine zn 9 ?_
           refine zn 10 ?_
           refine zn 11 ?_
           refine zn 12 ?_
           refine zn 13 ?_
           refine zn 14 ?_
           refine zn 15 ?_
           refine zn 16 ?_
           refine zn 17 ?_
           refine zn 18 ?_
           refine zn 19 ?_
           refine zu 20 ?_
           refine zu 21 ?_
           refine zd ?_
           try go_wp2
           go_meet
           case rel => exact ⟨_, (false), ze, H', ⟨by have := HK1.out; have := HJ8.out; first | omega | exact Nat.le_refl _⟩, ⟨zc BK241⟩, ⟨zc BK245⟩, ⟨zb⟩⟩
         case rest =>
          clear HC14
          try clear c1
          try clear c2
          try clear p2
          try clear q2
          try clear hx2
          try clear c4
          try clear c4b0
          try clear c4b1
          try clear c6
          try clear p6
          try clear c7
          try clear c10
          try clear c11
          try clear c12
          try clear c12b0
          try clear c13
          try clear c13b0
          try clear c16
          try clear c19
          try clear c20
          try clear c24
          try clear p24
          try clear q24
          try clear hx24
          try clear hcz17_0
          try clear hcz17_1
          try clear hcz7_0
          try clear hcz7_1
          try clear hcz7_2
          try clear hcz7_3
          try clear hfz17_0
          try clear hfz17_1
          try clear hfz7_0
          try clear hfz7_1
          try clear hfz7_2
          try clear hfz7_3
          try clear hx244_0
          try clear hx244_1
          try clear p2
          try clear p244
          try clear q244
          obtain ⟨kq, x6_13, rfl, HA, HJ13, BK241, BK245, HB⟩ := hcut
          cases kq with
          | zero => exact absurd HA.out (by simp [saronref06_asked.j2])
          | succ kj13 =>
           have H := HA.out
           clear HA
           simp only [saronref06_asked.j2] at H
           have H' := zh H
           clear H
           go_wp2
           go_loopg [6, 9] kj13 (fun kq v6 v9 w' => ∃ (x6_4 : Bool) (x9_4 : Int), v6 = .bool x6_4 ∧ v9 = .int .i64 x9_4 ∧ Aside0 (saronref06_asked.l1 kq l1 x6_4 x7_1 x9_4 a0_0 a0_1 a0_2 l0_3 ((rd_T60 l1 x7_1).f0) ((rd_T60 l1 x7_1).f1) = some r) ∧ Aside0 (kq ≤ kj13) ∧ Aside0 (w'.heap[gb241]? = some (.cells #[.int .i64 a0_0, .int .i64 a0_1, .int .i64 a0_2, (.slice A0_3 l0_3.length c0_3)] 24 (0, 0))) ∧ Aside0 (w'.heap[gb245]? = some (.cells #[.int .i64 ((rd_T60 l1 x7_1).f0), (.slice A244_1 ((rd_T60 l1 x7_1).f1).length c244_1)] 60 (0, 0))) ∧ Aside0 (Below w.heap.size w w'))
           case atStart => exact ⟨(x6_13), (0), ze, ze, H', ⟨Nat.le_refl _⟩, ⟨zc BK241⟩, ⟨zc BK245⟩, ⟨zb⟩⟩
           case round =>
            clear H'
            try clear c1
            try clear c2
            try clear p2
            try clear q2
            try clear hx2
            try clear c4
            try clear c4b0
            try clear c4b1
            try clear c6
            try clear p6
            try clear c7
            try clear c10
            try clear c11
            try clear c12
            try clear c12b0
            try clear c13
            try clear c13b0
            try clear c16
            try clear c19
            try clear c20
            try clear c24
            try clear p24
            try clear q24
            try clear hx24
            try clear hcz17_0
            try clear hcz17_1
            try clear hcz7_0
            try clear hcz7_1
            try clear hcz7_2
            try clear hcz7_3
            try clear hfz17_0
            try clear hfz17_1
            try clear hfz7_0
            try clear hfz7_1
            try clear hfz7_2
            try clear hfz7_3
            try clear hx244_0
            try clear hx244_1
            try clear p2
            try clear p24
            try clear p244
            try clear p6
            try clear q2
            try clear q24
            try clear q244
            obtain ⟨x6_4, x9_4, rfl, rfl, HA, HK4, BK241, BK245, HB⟩ := hrel
            cases gk with
            | zero => exact absurd HA.out (by simp [saronref06_asked.l1])
            | succ k4 =>
             have H := HA.out
             clear HA
             simp only [saronref06_asked.l1] at H
             by_cases c26 : x6_4 = true
             ·subst c26
              have H1 : (if x9_4 < (((rd_T60 l1 x7_1).f1).length : Int) then (if 0 ≤ x9_4 then ((saronref00_Sits.f (rd ((rd_T60 l1 x7_1).f1) x9_4) (-2) 40).bind fun t249 => (saronref06_asked.l1 k4 l1 t249 x7_1 (wrap64 (x9_4 + 1)) a0_0 a0_1 a0_2 l0_3 ((rd_T60 l1 x7_1).f0) ((rd_T60 l1 x7_1).f1))) else (none)) else (saronref06_asked.l0 k4 l1 true (wrap64 (x7_1 + 1)) a0_0 a0_1 a0_2 l0_3)) = some r := by rw [if_pos rfl] at H; exact H
              clear H
              have H := H1
              clear H1
              by_cases c27 : x9_4 < (((rd_T60 l1 x7_1).f1).length : Int)
              ·rw [if_pos c27] at H
               have c27b0 : decide (x9_4 < (((rd_T60 l1 x7_1).f1).length : Int)) = true := decide_eq_true c27
               clear c27
               by_cases c28 : 0 ≤ x9_4
               ·rw [if_pos c28] at H
                have c28b0 : decide (0 ≤ x9_4) = true := decide_eq_true c28
                clear c28
                replace H := Option.bind_eq_some_iff.mp H
                obtain ⟨t249, A290, H⟩ := H
                replace H : (saronref06_asked.l1 k4 l1 t249 x7_1 (wrap64 (x9_4 + 1)) a0_0 a0_1 a0_2 l0_3 ((rd_T60 l1 x7_1).f0) ((rd_T60 l1 x7_1).f1)) = some r := H
                have A29 := zh A290
                clear A290
                have H' := zh H
                clear H
                have hnb30 := NB245_241.out
                have hnc30 := NB241_245.out
                have hcz31_0 : wr.cell? ⟨gb245, 0, none⟩ = some (.int .i64 ((rd_T60 l1 x7_1).f0)) := vb BK245 0
                have hcz31_1 : wr.cell? ⟨gb245, 1, none⟩ = some (.slice A244_1 ((rd_T60 l1 x7_1).f1).length c244_1) := vb BK245 1
                have hfz31_0 := blk_frozen BK245.out 0
                have hfz31_1 := blk_frozen BK245.out 1
                have p248 : 0 ≤ (x9_4 : Int) := of_decide_eq_true zs
                have q248 : x9_4 < (((rd_T60 l1 x7_1).f1).length : Int) := of_decide_eq_true zs
                obtain ⟨ad248, e248, hx248_0⟩ := Kd.at_int HR244_1.out x9_4 p248 q248
                cases e248
                replace hx248_0 := ve HB.out hx248_0
                replace p248 := eq_true p248
                replace q248 := eq_true q248
                go_wp2_with (first | ((with_reducible refine gate_callee (f := 45) rfl ?_); refine goesL_ (some 67) rfl rfl Tryd.func45 zk rfl #[.int .i64 (rd ((rd_T60 l1 x7_1).f1) x9_4), .int .i64 (-2), .int .i64 40] rfl zm ?_; (with_reducible refine (saronref00_Sits.calls (rd ((rd_T60 l1 x7_1).f1) x9_4) (-2) 40 t249 _ A29.out).mono ?_); rintro e w' ⟨rfl, ⟨nd, rfl⟩⟩; refine ⟨_, rfl, ?_⟩))
                go_roundg k4
                case measure => have := HK1.out; have := HJ8.out; have := HJ13.out; have := HK4.out; omega
                case rel => exact ⟨(t249), (wrap64 (x9_4 + 1)), ze, ze, H', ⟨by have := HK1.out; have := HJ8.out; have := HJ13.out; have := HK4.out; omega⟩, ⟨zc BK241⟩, ⟨zc BK245⟩, ⟨zb⟩⟩
               ·rw [if_neg c28] at H
                exact absurd H (by simp)
              ·rw [if_neg c27] at H
               have c27b0 : decide (x9_4 < (((rd_T60 l1 x7_1).f1).length : Int)) = false := decide_eq_false c27
               clear c27
               have H' := zh H
               clear H
               have hnb32 := NB245_241.out
               have hnc32 := NB241_245.out
               have hcz33_0 : wr.cell? ⟨gb245, 0, none⟩ = some (.int .i64 ((rd_T60 l1 x7_1).f0)) := vb BK245 0
               have hcz33_1 : wr.cell? ⟨gb245, 1, none⟩ = some (.slice A244_1 ((rd_T60 l1 x7_1).f1).length c244_1) := vb BK245 1
               have hfz33_0 := blk_frozen BK245.out 0
               have hfz33_1 := blk_frozen BK245.out 1
               go_wp2
               go_roundg k4
               case measure => have := HK1.out; have := HJ8.out; have := HJ13.out; have := HK4.out; omega
               case rel => exact ⟨(true), (wrap64 (x7_1 + 1)), ze, ze, H', ⟨by have := HK1.out; have := HJ8.out; have := HJ13.out; have := HK4.out; omega⟩, ⟨zc BK241⟩, ⟨zb⟩⟩
             ·replace c26 := Bool.eq_false_iff.mpr c26
              subst c26
              have H1 : (saronref06_asked.l0 k4 l1 false (wrap64 (x7_1 + 1)) a0_0 a0_1 a0_2 l0_3) = some r := by rw [if_neg (show ¬ (false = true) by decide)] at H; exact H
              clear H
              have H := H1
              clear H1
              have H' := zh H
              clear H
              go_wp2
              go_roundg k4
              case measure => have := HK1.out; have := HJ8.out; have := HJ13.out; have := HK4.out; omega
              case rel => exact ⟨(false), (wrap64 (x7_1 + 1)), ze, ze, H', ⟨by have := HK1.out; have := HJ8.out; have := HJ13.out; have := HK4.out; omega⟩, ⟨zc BK241⟩, ⟨zb⟩⟩
        ·rw [if_neg c13] at H
         exact absurd H (by simp)
       ·rw [if_neg c12] at H
        exact absurd H (by simp)
      ·replace c11 := Bool.eq_false_iff.mpr c11
       subst c11
       have H1 : (if x6_1 = true then (some 0) else (some 61)) = some r := by rw [if_neg (show ¬ (false = true) by decide)] at H; exact H
       clear H
       have H := H1
       clear H1
       by_cases c34 : x6_1 = true
       ·subst c34
        have H1 : (some 0) = some r := by rw [if_pos rfl] at H; exact H
        clear H
        have H := H1
        clear H1
        obtain rfl := Option.some.inj H
        go_wp2
        go_ret
        exact ⟨zf, zb⟩
       ·replace c34 := Bool.eq_false_iff.mpr c34
        subst c34
        have H1 : (some 61) = some r := by rw [if_neg (show ¬ (false = true) by decide)] at H; exact H
        clear H
        have H := H1
        clear H1
        obtain rfl := Option.some.inj H
        go_wp2
        go_ret
        exact ⟨zf, zb⟩
 ·rw [if_neg c4] at H
  have c4b0 : (t242 == 0) = false := beq_eq_false_iff_ne.mpr c4
  have c4b1 : (t242 != 0) = true := bne_iff_ne.mpr c4
  obtain rfl := Option.some.inj H
  go_enter Tryd.func66, Tryd.ntmps66
  go_wp2_with (first | ((with_reducible refine gate_dst (N := 2) rfl ?_); (try (refine gate_guard (by rfl) ?_; dsimp only)); refine box_event ?hg (N := 2) ?hd (cs := #[.int .i64 a0_0, .int .i64 a0_1, .int .i64 a0_2, .slice A0_3 l0_3.length c0_3]) (t := 24) ?hr ?_; (case hd => rfl); (case hg => rfl); (case hr => first | (go_simp; done) | (go_simp; rfl)); intro gb241 hg w35 hbox hb; have n0_ := zh (below_step zb hb); have n1_ := zh (hbox); have n2_ := zh ((by rw [hg]; exact (below_size zb) : w.heap.size ≤ gb241)); have n3_ := zh ((by rw [hg]; exact (below_size zb) : w.heap.size ≤ gb241)); clear HB; have HB := n0_; have BK241 := n1_; have GW241 := n2_; have GE241 := n3_; clear n0_ n1_ n2_ n3_; clear hb hbox hg; have hcz36_0 : w35.cell? ⟨gb241, 0, none⟩ = some (.int .i64 a0_0) := vb BK241 0; have hcz36_1 : w35.cell? ⟨gb241, 1, none⟩ = some (.int .i64 a0_1) := vb BK241 1; have hcz36_2 : w35.cell? ⟨gb241, 2, none⟩ = some (.int .i64 a0_2) := vb BK241 2; have hcz36_3 : w35.cell? ⟨gb241, 3, none⟩ = some (.slice A0_3 l0_3.length c0_3) := vb BK241 3; have hfz36_0 := blk_frozen BK241.out 0; have hfz36_1 := blk_frozen BK241.out 1; have hfz36_2 := blk_frozen BK241.out 2; have hfz36_3 := blk_frozen BK241.out 3) | ((with_reducible refine gate_callee (f := 20) rfl ?_); refine goesL_ (some 11) rfl rfl Tryd.func20 zk rfl #[.agg #[.int .i64 a0_0, .int .i64 a0_1, .int .i64 a0_2, .slice A0_3 l0_3.length c0_3]] rfl zm ?_; (with_reducible refine (saronref06_Check.calls k a0_0 a0_1 a0_2 _ _ l0_3 t242 _ ?side1 ?side2 A3.out).mono ?_); (case side1 => repeat (first | exact (Kd.C_below HR0_3.out HB.out) | (with_reducible refine Kd.C_alloc ?_ _) | (with_reducible refine Kd.C_drewN ?_ _) | (with_reducible refine Kd.C_drew ?_))); (case side2 => exact HC0_3.out); rintro e w37 ⟨rfl, hb⟩; refine ⟨_, rfl, ?_⟩; have n0_ := zh (blk_below (g := gb241) (o := .cells #[.int .i64 a0_0, .int .i64 a0_1, .int .i64 a0_2, .slice A0_3 l0_3.length c0_3] 24 (0, 0)) (zc BK241) hb); have n1_ := zh (below_step zb hb); clear BK241; clear HB; have BK241 := n0_; have HB := n1_; clear n0_ n1_; (try clear hb); (try clear hb2); (try clear hk); (try clear hi)))
  go_ret
  exact ⟨zf, zb⟩
end Go.Proofs.YtagkfkdoibnhfaaDoor.H
end
section
namespace Go.Proofs.YtagkfkdoibnhfaaDoor.H
open Go.RowKit Go.Proofs.YtagkfkdoibnhfaaDoorW.PrintWords Go.Proofs.YtagkfkdoibnhfaaDoorW.PrintLast Go.Proofs.YtagkfkdoibnhfaaDoorW.PrintMore
attribute [local go_sem] max2_int min2_int max_two min_two max_three min_three max_four min_four   -- for this text's walks alone
set_option linter.unusedVariables false
set_option linter.unusedSimpArgs false
def saronref06_Many.l0 : Nat → List (List (S61)) → Int → Int → Option (Int × Int)
 | 0, _, _, _ => none
 | k + 1, x7, x9, x10 => if x10 < (x7.length : Int) then (if 0 ≤ x10 then (saronref06_Many.l0 k x7 (mn 1000000 (wrap64 (x9 * ((rd_L9 x7 x10).length : Int)))) (wrap64 (x10 + 1))) else (none)) else (some (x9, 0))
def saronref06_Many.f (k : Nat) (a0_0 : Int) (a0_1 : Int) (a0_2 : Int) (l0_3 : List (S66)) (l1 : List (S60)) : Option (Int × Int) := (saronref06_asked.f k a0_0 a0_1 a0_2 l0_3 l1).bind fun t276 => (if t276 = 0 then ((saronref06_all.f k a0_0 a0_1 a0_2 l0_3 l1).bind fun bt277 => (if bt277.2 = true then (saronref06_Many.l0 k bt277.1 1 0) else (some (0, 0)))) else (some (0, t276)))
set_option maxHeartbeats 8000000 in
set_option maxRecDepth 100000 in
theorem saronref06_Many.calls (k : Nat) (a0_0 : Int) (a0_1 : Int) (a0_2 : Int) (A0_3 : Option Addr) (c0_3 : Nat) (l0_3 : List (S66)) (A1 : Option Addr) (c1 : Nat) (l1 : List (S60)) (r1 : Int) (r2 : Int) (w : World) (hr0_3 : Kd.C k66 w A0_3 l0_3.length l0_3) (hc0_3 : l0_3.length ≤ c0_3) (hr1 : Kd.C k60 w A1 l1.length l1) (hc1 : l1.length ≤ c1) (h : saronref06_Many.f k a0_0 a0_1 a0_2 l0_3 l1 = some (r1, r2)) :
  Calls Tryd.prog 23 #[.agg #[.int .i64 a0_0, .int .i64 a0_1, .int .i64 a0_2, .slice A0_3 l0_3.length c0_3], .slice A1 l1.length c1] w fun e w' => e = .returned (.tuple #[.int .i64 r1, .int .i64 r2]) ∧ Below w.heap.size w w' := by
 have hu24 := Tryd.underlying24
 have HR0_3 := zh hr0_3
 have HC0_3 := zh hc0_3
 clear hr0_3 hc0_3
 have HR1 := zh hr1
 have HC1 := zh hc1
 clear hr1 hc1
 have HB := zh (Below.refl w.heap.size w)
 have H : ((saronref06_asked.f k a0_0 a0_1 a0_2 l0_3 l1).bind fun t276 => (if t276 = 0 then ((saronref06_all.f k a0_0 a0_1 a0_2 l0_3 l1).bind fun bt277 => (if bt277.2 = true then (saronref06_Many.l0 k bt277.1 1 0) else (some (0, 0)))) else (some (0, t276)))) = some (r1, r2) := h
 clear h
 replace H := Option.bind_eq_some_iff.mp H
 obtain ⟨t276, A30, H⟩ := H
 replace H : (if t276 = 0 then ((saronref06_all.f k a0_0 a0_1 a0_2 l0_3 l1).bind fun bt277 => (if bt277.2 = true then (saronref06_Many.l0 k bt277.1 1 0) else (some (0, 0)))) else (some (0, t276))) = some (r1, r2) := H
 have A3 := zh A30
 clear A30
 by_cases c4 : t276 = 0
 ·rw [if_pos c4] at H
  have c4b0 : (t276 == 0) = true := beq_iff_eq.mpr c4
  have c4b1 : (t276 != 0) = false := bne_eq_false_iff_eq.mpr c4
  clear c4
  replace H := Option.bind_eq_some_iff.mp H
  obtain ⟨⟨t277, t280⟩, A50, H⟩ := H
  replace H : (if t280 = true then (saronref06_Many.l0 k t277 1 0) else (some (0, 0))) = some (r1, r2) := H
  have A5 := zh A50
  clear A50
  by_cases c6 : t280 = true
  ·subst c6
   have H1 : (saronref06_Many.l0 k t277 1 0) = some (r1, r2) := by rw [if_pos rfl] at H; exact H
   clear H
   have H := H1
   clear H1
   have H' := zh H
   clear H
   go_enter Tryd.func23, Tryd.ntmps23
   go_wp2_with (first | ((with_reducible refine gate_dst (N := 2) rfl ?_); refine box_event ?hg (N := 2) ?hd (cs := #[.int .i64 a0_0, .int .i64 a0_1, .int .i64 a0_2, .slice A0_3 l0_3.length c0_3]) (t := 24) ?hr ?_; (case hd => rfl); (case hg => rfl); (case hr => first | (go_simp; done) | (go_simp; rfl)); intro gb275 hg w7 hbox hb; have n0_ := zh (below_step zb hb); have n1_ := zh (hbox); have n2_ := zh ((by rw [hg]; exact (below_size zb) : w.heap.size ≤ gb275)); have n3_ := zh ((by rw [hg]; exact (below_size zb) : w.heap.size ≤ gb275)); clear HB; have HB := n0_; have BK275 := n1_; have GW275 := n2_; have GE275 := n3_; clear n0_ n1_ n2_ n3_; clear hb hbox hg; have hcz8_0 : w7.cell? ⟨gb275, 0, none⟩ = some (.int .i64 a0_0) := vb BK275 0; have hcz8_1 : w7.cell? ⟨gb275, 1, none⟩ = some (.int .i64 a0_1) := vb BK275 1; have hcz8_2 : w7.cell? ⟨gb275, 2, none⟩ = some (.int .i64 a0_2) := vb BK275 2; have hcz8_3 : w7.cell? ⟨gb275, 3, none⟩ = some (.slice A0_3 l0_3.length c0_3) := vb BK275 3; have hfz8_0 := blk_frozen BK275.out 0; have hfz8_1 := blk_frozen BK275.out 1; have hfz8_2 := blk_frozen BK275.out 2; have hfz8_3 := blk_frozen BK275.out 3) | ((with_reducible refine gate_callee (f := 66) rfl ?_); refine goesL_ (some 13) rfl rfl Tryd.func66 zk rfl #[.agg #[.int .i64 a0_0, .int .i64 a0_1, .int .i64 a0_2, .slice A0_3 l0_3.length c0_3], .slice A1 l1.length c1] rfl zm ?_; (with_reducible refine (saronref06_asked.calls k a0_0 a0_1 a0_2 _ _ l0_3 _ _ l1 t276 _ ?side1 ?side2 ?side3 ?side4 A3.out).mono ?_); (case side1 => repeat (first | exact (Kd.C_below HR0_3.out HB.out) | (with_reducible refine Kd.C_alloc ?_ _) | (with_reducible refine Kd.C_drewN ?_ _) | (with_reducible refine Kd.C_drew ?_))); (case side2 => exact HC0_3.out); (case side3 => repeat (first | exact (Kd.C_below HR1.out HB.out) | (with_reducible refine Kd.C_alloc ?_ _) | (with_reducible refine Kd.C_drewN ?_ _) | (with_reducible refine Kd.C_drew ?_))); (case side4 => exact HC1.out); rintro e w9 ⟨rfl, hb⟩; refine ⟨_, rfl, ?_⟩; have n0_ := zh (blk_below (g := gb275) (o := .cells #[.int .i64 a0_0, .int .i64 a0_1, .int .i64 a0_2, .slice A0_3 l0_3.length c0_3] 24 (0, 0)) (zc BK275) hb); have n1_ := zh (below_step zb hb); clear BK275; clear HB; have BK275 := n0_; have HB := n1_; clear n0_ n1_; (try clear hb); (try clear hb2); (try clear hk); (try clear hi); have hcz10_0 : w9.cell? ⟨gb275, 0, none⟩ = some (.int .i64 a0_0) := vb BK275 0; have hcz10_1 : w9.cell? ⟨gb275, 1, none⟩ = some (.int .i64 a0_1) := vb BK275 1; have hcz10_2 : w9.cell? ⟨gb275, 2, none⟩ = some (.int .i64 a0_2) := vb BK275 2; have hcz10_3 : w9.cell? ⟨gb275, 3, none⟩ = some (.slice A0_3 l0_3.length c0_3) := vb BK275 3; have hfz10_0 := blk_frozen BK275.out 0; have hfz10_1 := blk_frozen BK275.out 1; have hfz10_2 := blk_frozen BK275.out 2; have hfz10_3 := blk_frozen BK275.out 3) | ((with_reducible refine gate_callee (f := 67) rfl ?_); refine goesL_ (some 20) rfl rfl Tryd.func67 zk rfl #[.agg #[.int .i64 a0_0, .int .i64 a0_1, .int .i64 a0_2, .slice A0_3 l0_3.length c0_3], .slice A1 l1.length c1] rfl zm ?_; (with_reducible refine (saronref06_all.calls k a0_0 a0_1 a0_2 _ _ l0_3 _ _ l1 t277 true _ ?side1 ?side2 ?side3 ?side4 A5.out).mono ?_); (case side1 => repeat (first | exact (Kd.C_below HR0_3.out HB.out) | (with_reducible refine Kd.C_alloc ?_ _) | (with_reducible refine Kd.C_drewN ?_ _) | (with_reducible refine Kd.C_drew ?_))); (case side2 => exact HC0_3.out); (case side3 => repeat (first | exact (Kd.C_below HR1.out HB.out) | (with_reducible refine Kd.C_alloc ?_ _) | (with_reducible refine Kd.C_drewN ?_ _) | (with_reducible refine Kd.C_drew ?_))); (case side4 => exact HC1.out); rintro e w11 ⟨v278, rfl, ho0, hb⟩; refine ⟨_, rfl, ?_⟩; have n0_ := zh (Kd.S_lower ho0 (below_size zb)); have n1_ := zh (blk_below (g := gb275) (o := .cells #[.int .i64 a0_0, .int .i64 a0_1, .int .i64 a0_2, .slice A0_3 l0_3.length c0_3] 24 (0, 0)) (zc BK275) hb); have n2_ := zh (below_step zb hb); clear BK275; clear HB; have HO279 := n0_; have BK275 := n1_; have HB := n2_; clear n0_ n1_ n2_; (try clear hb); (try clear hb2); (try clear hk); (try clear hi); (try clear ho0)))
   go_loopg [9, 10] k (fun kq v9 v10 w' => ∃ (x9_1 : Int) (x10_1 : Int), v9 = .int .i64 x9_1 ∧ v10 = .int .i64 x10_1 ∧ Aside0 (saronref06_Many.l0 kq t277 x9_1 x10_1 = some (r1, r2)) ∧ Aside0 (kq ≤ k) ∧ Aside0 (Kd.S (Kd.slice 61 k61) 44 w' w.heap.size (fun _ => True) v278 t277) ∧ Aside0 (w'.heap[gb275]? = some (.cells #[.int .i64 a0_0, .int .i64 a0_1, .int .i64 a0_2, (.slice A0_3 l0_3.length c0_3)] 24 (0, 0))) ∧ Aside0 (Below w.heap.size w w'))
   case atStart => exact ⟨(1), (0), ze, ze, H', ⟨Nat.le_refl _⟩, ⟨zS HO279⟩, ⟨zc BK275⟩, ⟨zb⟩⟩
   case round =>
    clear H'
    try clear c1
    try clear c2
    try clear p2
    try clear c4
    try clear c4b0
    try clear c4b1
    try clear c6
    try clear hcz10_0
    try clear hcz10_1
    try clear hcz10_2
    try clear hcz10_3
    try clear hcz8_0
    try clear hcz8_1
    try clear hcz8_2
    try clear hcz8_3
    try clear hfz10_0
    try clear hfz10_1
    try clear hfz10_2
    try clear hfz10_3
    try clear hfz8_0
    try clear hfz8_1
    try clear hfz8_2
    try clear hfz8_3
    obtain ⟨x9_1, x10_1, rfl, rfl, HA, HK1, HO_7, BK275, HB⟩ := hrel
    cases gk with
    | zero => exact absurd HA.out (by simp [saronref06_Many.l0])
    | succ k1 =>
     have H := HA.out
     clear HA
     simp only [saronref06_Many.l0] at H
     by_cases c12 : x10_1 < (t277.length : Int)
     ·rw [if_pos c12] at H
      have c12b0 : decide (x10_1 < (t277.length : Int)) = true := decide_eq_true c12
      clear c12
      by_cases c13 : 0 ≤ x10_1
      ·rw [if_pos c13] at H
       have c13b0 : decide (0 ≤ x10_1) = true := decide_eq_true c13
       clear c13
       obtain ⟨ji14, hji14⟩ : ∃ j_ : Int, (mn 1000000 (wrap64 (x9_1 * ((rd_L9 t277 x10_1).length : Int)))) = j_ := ⟨_, rfl⟩
       replace H : (saronref06_Many.l0 k1 t277 ji14 (wrap64 (x10_1 + 1))) = some (r1, r2) := by first | (rw [hji14] at H; exact H) | (simp only [hji14] at H ⊢; exact H)
       have hji14_ : (if (wrap64 (x9_1 * ((rd_L9 t277 x10_1).length : Int))) < 1000000 then (wrap64 (x9_1 * ((rd_L9 t277 x10_1).length : Int))) else 1000000) = ji14 := hji14
       have H' := zh H
       clear H
       obtain ⟨Ao15, co15, eo15⟩ := Kd.S_slice HO_7.out
       subst eo15
       have p281 : 0 ≤ (x10_1 : Int) := of_decide_eq_true zs
       have q281 : x10_1 < (t277.length : Int) := of_decide_eq_true zs
       obtain ⟨ad281, A281_0, c281_0, e281, hx281_0, hl281_0, hi281_0⟩ := at_L9 (Kd.S_reads' HO_7.out).2.2 x10_1 p281 q281
       cases e281
       obtain ⟨ce281, hce281, hMe281, hcc281⟩ := Kd.S_get HO_7.out [] x10_1 p281 (by first | exact q281 | exact of_decide_eq_true zs | (have e_ := (Kd.S_reads' HO_7.out).1; omega))
       obtain ⟨ve281_0, rfl, ge281_0⟩ := hMe281
       have hv281_0 := hcc281 0 _ rfl
       rw [Nat.add_zero, show ((Kd.slice 61 k61)).sz = 1 from rfl, Nat.mul_one] at hv281_0
       replace hv281_0 := Option.some.inj (hv281_0.symm.trans hx281_0)
       rw [hv281_0] at ge281_0
       have HL281_0 := zh (show Kd.R k61 61 _ _ _ _ (rd_L9 t277 x10_1) from ge281_0)
       clear hv281_0 ge281_0 hcc281 hce281
       have HR281_0 := zh hi281_0
       have HC281_0 := zh hl281_0
       clear hi281_0 hl281_0
       replace p281 := eq_true p281
       replace q281 := eq_true q281
       go_wp2
       go_roundg k1
       case measure => have := HK1.out; omega
       case rel => exact ⟨(ji14), (wrap64 (x10_1 + 1)), (by first | rfl | (simp; done) | (simp only [← hji14] <;> (first | rfl | simp)) | (simp [*]; done)), ze, H', ⟨by have := HK1.out; omega⟩, ⟨zS HO_7⟩, ⟨zc BK275⟩, ⟨zb⟩⟩
      ·rw [if_neg c13] at H
       exact absurd H (by simp)
     ·rw [if_neg c12] at H
      have c12b0 : decide (x10_1 < (t277.length : Int)) = false := decide_eq_false c12
      clear c12
      simp only [Option.some.injEq, Prod.mk.injEq] at H
      obtain ⟨rfl, rfl⟩ := H
      obtain ⟨Ao16, co16, eo16⟩ := Kd.S_slice HO_7.out
      subst eo16
      go_wp2
      go_ret2
      exact ⟨zf, zb⟩
  ·replace c6 := Bool.eq_false_iff.mpr c6
   subst c6
   have H1 : (some (0, 0)) = some (r1, r2) := by rw [if_neg (show ¬ (false = true) by decide)] at H; exact H
   clear H
   have H := H1
   clear H1
   simp only [Option.some.injEq, Prod.mk.injEq] at H
   obtain ⟨rfl, rfl⟩ := H
   go_enter Tryd.func23, Tryd.ntmps23
   go_wp2_with (first | ((with_reducible refine gate_dst (N := 2) rfl ?_); refine box_event ?hg (N := 2) ?hd (cs := #[.int .i64 a0_0, .int .i64 a0_1, .int .i64 a0_2, .slice A0_3 l0_3.length c0_3]) (t := 24) ?hr ?_; (case hd => rfl); (case hg => rfl); (case hr => first | (go_simp; done) | (go_simp; rfl)); intro gb275 hg w17 hbox hb; have n0_ := zh (below_step zb hb); have n1_ := zh (hbox); have n2_ := zh ((by rw [hg]; exact (below_size zb) : w.heap.size ≤ gb275)); have n3_ := zh ((by rw [hg]; exact (below_size zb) : w.heap.size ≤ gb275)); clear HB; have HB := n0_; have BK275 := n1_; have GW275 := n2_; have GE275 := n3_; clear n0_ n1_ n2_ n3_; clear hb hbox hg; have hcz18_0 : w17.cell? ⟨gb275, 0, none⟩ = some (.int .i64 a0_0) := vb BK275 0; have hcz18_1 : w17.cell? ⟨gb275, 1, none⟩ = some (.int .i64 a0_1) := vb BK275 1; have hcz18_2 : w17.cell? ⟨gb275, 2, none⟩ = some (.int .i64 a0_2) := vb BK275 2; have hcz18_3 : w17.cell? ⟨gb275, 3, none⟩ = some (.slice A0_3 l0_3.length c0_3) := vb BK275 3; have hfz18_0 := blk_frozen BK275.out 0; have hfz18_1 := blk_frozen BK275.out 1; have hfz18_2 := blk_frozen BK275.out 2; have hfz18_3 := blk_frozen BK275.out 3) | ((with_reducible refine gate_callee (f := 66) rfl ?_); refine goesL_ (some 13) rfl rfl Tryd.func66 zk rfl #[.agg #[.int .i64 a0_0, .int .i64 a0_1, .int .i64 a0_2, .slice A0_3 l0_3.length c0_3], .slice A1 l1.length c1] rfl zm ?_; (with_reducible refine (saronref06_asked.calls k a0_0 a0_1 a0_2 _ _ l0_3 _ _ l1 t276 _ ?side1 ?side2 ?side3 ?side4 A3.out).mono ?_); (case side1 => repeat (first | exact (Kd.C_below HR0_3.out HB.out) | (with_reducible refine Kd.C_alloc ?_ _) | (with_reducible refine Kd.C_drewN ?_ _) | (with_reducible refine Kd.C_drew ?_))); (case side2 => exact HC0_3.out); (case side3 => repeat (first | exact (Kd.C_below HR1.out HB.out) | (with_reducible refine Kd.C_alloc ?_ _) | (with_reducible refine Kd.C_drewN ?_ _) | (with_reducible refine Kd.C_drew ?_))); (case side4 => exact HC1.out); rintro e w19 ⟨rfl, hb⟩; refine ⟨_, rfl, ?_⟩; have n0_ := zh (blk_below (g := gb275) (o := .cells #[.int .i64 a0_0, .int .i64 a0_1, .int .i64 a0_2, .slice A0_3 l0_3.length c0_3] 24 (0, 0)) (zc BK275) hb); have n1_ := zh (below_step zb hb); clear BK275; clear HB; have BK275 := n0_; have HB := n1_; clear n0_ n1_; (try clear hb); (try clear hb2); (try clear hk); (try clear hi); have hcz20_0 : w19.cell? ⟨gb275, 0, none⟩ = some (.int .i64 a0_0) := vb BK275 0; have hcz20_1 : w19.cell? ⟨gb275, 1, none⟩ = some (.int .i64 a0_1) := vb BK275 1; have hcz20_2 : w19.cell? ⟨gb275, 2, none⟩ = some (.int .i64 a0_2) := vb BK275 2; have hcz20_3 : w19.cell? ⟨gb275, 3, none⟩ = some (.slice A0_3 l0_3.length c0_3) := vb BK275 3; have hfz20_0 := blk_frozen BK275.out 0; have hfz20_1 := blk_frozen BK275.out 1; have hfz20_2 := blk_frozen BK275.out 2; have hfz20_3 := blk_frozen BK275.out 3) | ((with_reducible refine gate_callee (f := 67) rfl ?_); refine goesL_ (some 20) rfl rfl Tryd.func67 zk rfl #[.agg #[.int .i64 a0_0, .int .i64 a0_1, .int .i64 a0_2, .slice A0_3 l0_3.length c0_3], .slice A1 l1.length c1] rfl zm ?_; (with_reducible refine (saronref06_all.calls k a0_0 a0_1 a0_2 _ _ l0_3 _ _ l1 t277 false _ ?side1 ?side2 ?side3 ?side4 A5.out).mono ?_); (case side1 => repeat (first | exact (Kd.C_below HR0_3.out HB.out) | (with_reducible refine Kd.C_alloc ?_ _) | (with_reducible refine Kd.C_drewN ?_ _) | (with_reducible refine Kd.C_drew ?_))); (case side2 => exact HC0_3.out); (case side3 => repeat (first | exact (Kd.C_below HR1.out HB.out) | (with_reducible refine Kd.C_alloc ?_ _) | (with_reducible refine Kd.C_drewN ?_ _) | (with_reducible refine Kd.C_drew ?_))); (case side4 => exact HC1.out); rintro e w21 ⟨v278, rfl, ho0, hb⟩; refine ⟨_, rfl, ?_⟩; have n0_ := zh (Kd.S_lower ho0 (below_size zb)); have n1_ := zh (blk_below (g := gb275) (o := .cells #[.int .i64 a0_0, .int .i64 a0_1, .int .i64 a0_2, .slice A0_3 l0_3.length c0_3] 24 (0, 0)) (zc BK275) hb); have n2_ := zh (below_step zb hb); clear BK275; clear HB; have HO279 := n0_; have BK275 := n1_; have HB := n2_; clear n0_ n1_ n2_; (try clear hb); (try clear hb2); (try clear hk); (try clear hi); (try clear ho0)))
   go_ret2
   exact ⟨zf, zb⟩
 ·rw [if_neg c4] at H
  have c4b0 : (t276 == 0) = false := beq_eq_false_iff_ne.mpr c4
  have c4b1 : (t276 != 0) = true := bne_iff_ne.mpr c4
  simp only [Option.some.injEq, Prod.mk.injEq] at H
  obtain ⟨rfl, rfl⟩ := H
  go_enter Tryd.func23, Tryd.ntmps23
  go_wp2_with (first | ((with_reducible refine gate_dst (N := 2) rfl ?_); refine box_event ?hg (N := 2) ?hd (cs := #[.int .i64 a0_0, .int .i64 a0_1, .int .i64 a0_2, .slice A0_3 l0_3.length c0_3]) (t := 24) ?hr ?_; (case hd => rfl); (case hg => rfl); (case hr => first | (go_simp; done) | (go_simp; rfl)); intro gb275 hg w22 hbox hb; have n0_ := zh (below_step zb hb); have n1_ := zh (hbox); have n2_ := zh ((by rw [hg]; exact (below_size zb) : w.heap.size ≤ gb275)); have n3_ := zh ((by rw [hg]; exact (below_size zb) : w.heap.size ≤ gb275)); clear HB; have HB := n0_; have BK275 := n1_; have GW275 := n2_; have GE275 := n3_; clear n0_ n1_ n2_ n3_; clear hb hbox hg; have hcz23_0 : w22.cell? ⟨gb275, 0, none⟩ = some (.int .i64 a0_0) := vb BK275 0; have hcz23_1 : w22.cell? ⟨gb275, 1, none⟩ = some (.int .i64 a0_1) := vb BK275 1; have hcz23_2 : w22.cell? ⟨gb275, 2, none⟩ = some (.int .i64 a0_2) := vb BK275 2; have hcz23_3 : w22.cell? ⟨gb275, 3, none⟩ = some (.slice A0_3 l0_3.length c0_3) := vb BK275 3; have hfz23_0 := blk_frozen BK275.out 0; have hfz23_1 := blk_frozen BK275.out 1; have hfz23_2 := blk_frozen BK275.out 2; have hfz23_3 := blk_frozen BK275.out 3) | ((with_reducible refine gate_callee (f := 66) rfl ?_); refine goesL_ (some 13) rfl rfl Tryd.func66 zk rfl #[.agg #[.int .i64 a0_0, .int .i64 a0_1, .int .i64 a0_2, .slice A0_3 l0_3.length c0_3], .slice A1 l1.length c1] rfl zm ?_; (with_reducible refine (saronref06_asked.calls k a0_0 a0_1 a0_2 _ _ l0_3 _ _ l1 t276 _ ?side1 ?side2 ?side3 ?side4 A3.out).mono ?_); (case side1 => repeat (first | exact (Kd.C_below HR0_3.out HB.out) | (with_reducible refine Kd.C_alloc ?_ _) | (with_reducible refine Kd.C_drewN ?_ _) | (with_reducible refine Kd.C_drew ?_))); (case side2 => exact HC0_3.out); (case side3 => repeat (first | exact (Kd.C_below HR1.out HB.out) | (with_reducible refine Kd.C_alloc ?_ _) | (with_reducible refine Kd.C_drewN ?_ _) | (with_reducible refine Kd.C_drew ?_))); (case side4 => exact HC1.out); rintro e w24 ⟨rfl, hb⟩; refine ⟨_, rfl, ?_⟩; have n0_ := zh (blk_below (g := gb275) (o := .cells #[.int .i64 a0_0, .int .i64 a0_1, .int .i64 a0_2, .slice A0_3 l0_3.length c0_3] 24 (0, 0)) (zc BK275) hb); have n1_ := zh (below_step zb hb); clear BK275; clear HB; have BK275 := n0_; have HB := n1_; clear n0_ n1_; (try clear hb); (try clear hb2); (try clear hk); (try clear hi)))
  go_ret2
  exact ⟨zf, zb⟩
end Go.Proofs.YtagkfkdoibnhfaaDoor.H
end
section
namespace Go.Proofs.YtagkfkdoibnhfaaDoor.K
open Go.RowKit Go.Proofs.YtagkfkdoibnhfaaDoorW.PrintWords Go.Proofs.YtagkfkdoibnhfaaDoorW.PrintMore Go.Proofs.YtagkfkdoibnhfaaDoor.H
theorem rd60 (l : List S60) (i : Nat) (h : i < l.length) : rd_T60 l (i : Int) = l[i] := by
 unfold rd_T60
 simp [h]
theorem rd61 (l : List S61) (i : Nat) (h : i < l.length) : rd_T61 l (i : Int) = l[i] := by
 unfold rd_T61
 simp [h]
theorem rdL9 (l : List (List S61)) (i : Nat) (h : i < l.length) : rd_L9 l (i : Int) = l[i] := by
 unfold rd_L9
 simp [h]
theorem up1 (i : Nat) (h : (i : Int) < 9223372036854775807) : wrap64 ((i : Int) + 1) = ((i + 1 : Nat) : Int) := by rw [w64 (by omega) (by omega)]; simp
theorem rsize_f (T O L r : Int) (R : List S66) (hT : 2 ≤ T) (hT' : T ≤ 7) (h0 : 0 ≤ r) (h1 : r < R.length) (hx : RegOk (regAt R r)) (k : Nat) (hk : 140 ≤ k) : saronref06_size.f k T O L R r = some (width (regAt R r) : Int) := by
 unfold saronref06_size.f
 rw [rbar_f T O L R r 0 0 hT hT' h0 h1 hx (by omega) (by omega) (by omega) (by omega) k hk, Option.bind_some, strokes_width]
def rangeOk (n : Int) : Bool := decide (-2 ≤ n) && decide (n ≤ 40)
theorem asked_l1 (T O L i r : Int) (R : List S66) (hs : List S60) (K0 : Nat) (Fc : Bool → Int) (hc : ∀ k, K0 ≤ k → ∀ ok, saronref06_asked.l0 k hs ok (wrap64 (i + 1)) T O L R = some (Fc ok)) (s : List Int) (hl : s.length ≤ 9223372036854775807) :
  ∀ (d k j : Nat) (ok : Bool), s.length - j = d → j ≤ s.length → K0 + d + 1 ≤ k → saronref06_asked.l1 k hs ok i (j : Int) T O L R r s = some (Fc (ok && (s.drop j).all rangeOk))
 | d, k, j, false, hd, hj, hk => by
  obtain ⟨k, rfl⟩ : ∃ m, k = m + 1 := ⟨k - 1, by omega⟩
  simp only [saronref06_asked.l1]
  rw [if_neg (by simp), hc k (by omega), Bool.false_and]
 | 0, k, j, true, hd, hj, hk => by
  obtain ⟨k, rfl⟩ : ∃ m, k = m + 1 := ⟨k - 1, by omega⟩
  obtain rfl : j = s.length := by omega
  simp only [saronref06_asked.l1]
  rw [if_pos trivial, if_neg (by omega), hc k (by omega), List.drop_length, List.all_nil, Bool.and_true]
 | d + 1, k, j, true, hd, hj, hk => by
  obtain ⟨k, rfl⟩ : ∃ m, k = m + 1 := ⟨k - 1, by omega⟩
  have hlt : j < s.length := by omega
  simp only [saronref06_asked.l1]
  rw [if_pos trivial, if_pos (by omega), if_pos (by omega), sits_f, Option.bind_some, up1 j (by omega), rd_nat s j hlt, asked_l1 T O L i r R hs K0 Fc hc s hl d k (j + 1) _ (by omega) (by omega) (by omega), List.drop_eq_getElem_cons hlt, List.all_cons, Bool.true_and]
  rfl
theorem asked_l1_all (T O L i r : Int) (R : List S66) (hs : List S60) (K0 : Nat) (Fc : Bool → Int) (hc : ∀ k, K0 ≤ k → ∀ ok, saronref06_asked.l0 k hs ok (wrap64 (i + 1)) T O L R = some (Fc ok)) (s : List Int) (hl : s.length ≤ 9223372036854775807) (k : Nat) (ok : Bool) (hk : K0 + s.length + 1 ≤ k) :
  saronref06_asked.l1 k hs ok i 0 T O L R r s = some (Fc (ok && s.all rangeOk)) := by
 have h := asked_l1 T O L i r R hs K0 Fc hc s hl s.length k 0 ok (Nat.sub_zero _) (Nat.zero_le _) hk
 rw [List.drop_zero] at h
 exact h
def askFuel : List S60 → Nat
 | [] => 150
 | h :: r => h.f1.length + 4 + askFuel r
theorem askFuel_le : ∀ hs : List S60, 150 ≤ askFuel hs
 | [] => Nat.le_refl _
 | h :: r => by have := askFuel_le r; unfold askFuel; omega
def Lens (hs : List S60) : Prop := hs.length ≤ 9223372036854775807 ∧ ∀ h ∈ hs, h.f1.length ≤ 9223372036854775807
theorem asked_l0_false (T O L : Int) (R : List S66) (hs : List S60) (k : Nat) (i : Int) (hk : 2 ≤ k) : saronref06_asked.l0 k hs false i T O L R = some 61 := by
 obtain ⟨k, rfl⟩ : ∃ m, k = m + 2 := ⟨k - 2, by omega⟩
 simp [saronref06_asked.l0, saronref06_asked.j1]
theorem asked_step (T O L : Int) (R : List S66) (hs : List S60) (hS : okScale T O L R = true) (hl : Lens hs) (i : Nat) (hlt : i < hs.length) (K0 : Nat) (h150 : 150 ≤ K0) (A : Bool)
  (ih : ∀ (k : Nat) (ok : Bool), K0 ≤ k → saronref06_asked.l0 k hs ok ((i + 1 : Nat) : Int) T O L R = some (if (ok && A) = true then 0 else 61)) (k : Nat) (hk : hs[i].f1.length + 4 + K0 ≤ k) :
  saronref06_asked.l0 k hs true (i : Int) T O L R = some (if (okHeard1 L R hs[i] && A) = true then 0 else 61) := by
 have hmax := hl.1
 have hf := hl.2 hs[i] (List.getElem_mem hlt)
 obtain ⟨k, rfl⟩ : ∃ m, k = m + 3 := ⟨k - 3, by omega⟩
 obtain ⟨t1, t2, t3, t4, t5, t6, t7, t8, t9, hok⟩ := okScale_regs hS
 have l1 : ∀ (k : Nat) (ok : Bool), K0 + hs[i].f1.length + 1 ≤ k → saronref06_asked.l1 k hs ok (i : Int) 0 T O L R hs[i].f0 hs[i].f1 = some (if ((ok && hs[i].f1.all rangeOk) && A) = true then 0 else 61) := fun k ok hk =>
  asked_l1_all T O L (i : Int) hs[i].f0 R hs K0 (fun ok => if (ok && A) = true then 0 else 61) (fun k hk ok => by rw [up1 i (by omega)]; exact ih k ok hk) hs[i].f1 hf k ok hk
 have hdec : decide ((i : Int) < (hs.length : Int)) = true := decide_eq_true (by omega)
 simp only [saronref06_asked.l0, saronref06_asked.j1, saronref06_asked.j2, hdec, if_true]
 rw [if_pos (by omega), if_pos (by omega), rd60 hs i hlt, sits_f, Option.bind_some, w64 (by omega) (by omega)]
 by_cases hb : 0 ≤ hs[i].f0 ∧ hs[i].f0 < R.length
 ·rw [if_pos (by rw [decide_eq_true hb.1, decide_eq_true (by omega : hs[i].f0 ≤ (R.length : Int) - 1)]; rfl), rsize_f T O L hs[i].f0 R t1 t2 hb.1 hb.2 (hok _ hb.1 hb.2) (k + 1) (by omega), Option.bind_some]
  have hw := width_le (regAt R hs[i].f0)
  have hdv : wrap64 (Int.tdiv L 2) = L / 2 := by rw [Int.tdiv_eq_ediv_of_nonneg (by omega)]; exact w64 (by omega) (by omega)
  have hm : L / 2 * (width (regAt R hs[i].f0) : Int) ≤ 8 * 4 := Int.mul_le_mul (by omega) (by omega) (by omega) (by omega)
  have hm0 : 0 ≤ L / 2 * (width (regAt R hs[i].f0) : Int) := Int.mul_nonneg (by omega) (by omega)
  rw [hdv, w64 (by omega) (by omega), l1 k _ (by omega)]
  have e1 : okHeard1 L R hs[i] = (((hs[i].f1.length : Int) == L / 2 * (width (regAt R hs[i].f0) : Int)) && hs[i].f1.all rangeOk) := by
   unfold okHeard1
   rw [decide_eq_true hb.1, decide_eq_true hb.2, Bool.true_and, Bool.true_and]
   congr 1
  rw [e1]
 ·have hbf : (decide (0 ≤ hs[i].f0) && decide (hs[i].f0 ≤ (R.length : Int) - 1)) = false := by
   by_cases h0 : 0 ≤ hs[i].f0
   ·rw [decide_eq_false (by omega : ¬ hs[i].f0 ≤ (R.length : Int) - 1), Bool.and_false]
   ·rw [decide_eq_false h0, Bool.false_and]
  rw [hbf, if_neg (by simp), l1 k _ (by omega)]
  have hbf2 : okHeard1 L R hs[i] = false := by
   unfold okHeard1
   by_cases h0 : 0 ≤ hs[i].f0
   ·rw [decide_eq_false (by omega : ¬ hs[i].f0 < (R.length : Int))]; simp
   ·rw [decide_eq_false h0]; simp
  rw [hbf2]
  simp
theorem asked_l0 (T O L : Int) (R : List S66) (hs : List S60) (hS : okScale T O L R = true) (hl : Lens hs) (d : Nat) :
  ∀ (k i : Nat) (ok : Bool), hs.length - i = d → i ≤ hs.length → askFuel (hs.drop i) ≤ k → saronref06_asked.l0 k hs ok (i : Int) T O L R = some (if (ok && (hs.drop i).all (okHeard1 L R)) = true then 0 else 61) := by
 induction d with
 | zero =>
  intro k i ok hd hi hk
  have h150 := askFuel_le (hs.drop i)
  cases ok
  ·rw [asked_l0_false _ _ _ _ _ _ _ (by omega)]; simp
  ·obtain ⟨k, rfl⟩ : ∃ m, k = m + 2 := ⟨k - 2, by omega⟩
   obtain rfl : i = hs.length := by omega
   simp [saronref06_asked.l0, saronref06_asked.j1]
 | succ d ih =>
  intro k i ok hd hi hk
  have h150 := askFuel_le (hs.drop i)
  cases ok
  ·rw [asked_l0_false _ _ _ _ _ _ _ (by omega)]; simp
  ·have hlt : i < hs.length := by omega
   rw [List.drop_eq_getElem_cons hlt] at hk ⊢
   rw [List.all_cons, Bool.true_and]
   exact asked_step T O L R hs hS hl i hlt (askFuel (hs.drop (i + 1))) (askFuel_le _) _ (fun k ok hk => ih k (i + 1) ok (by omega) (by omega) hk) k hk
theorem asked_f (T O L : Int) (R : List S66) (hs : List S60) (hR : R.length ≤ 9223372036854775807) (hl : Lens hs) (k : Nat) (hk : askFuel hs + 2 * R.length + 10 ≤ k) :
  saronref06_asked.f k T O L R hs = some (if okScale T O L R = true then if okHeard L R hs = true then 0 else 61 else 60) := by
 have h150 := askFuel_le hs
 unfold saronref06_asked.f
 rw [rcheck_f T O L R hR k (by omega), Option.bind_some]
 cases hS : okScale T O L R
 ·simp
 ·have h0 : ∀ ok, saronref06_asked.l0 k hs ok 0 T O L R = some (if (ok && hs.all (okHeard1 L R)) = true then 0 else 61) := fun ok => by
   have h := asked_l0 T O L R hs hS hl hs.length k 0 ok (Nat.sub_zero _) (Nat.zero_le _) (by rw [List.drop_zero]; omega)
   rw [List.drop_zero] at h
   exact h
  rw [if_pos rfl, if_pos rfl, sits_f, Option.bind_some, h0, if_pos rfl]
  have e1 : decide ((1 : Int) ≤ (hs.length : Int)) = decide (1 ≤ hs.length) := by rw [decide_eq_decide]; omega
  have e2 : decide ((hs.length : Int) ≤ 5) = decide (hs.length ≤ 5) := by rw [decide_eq_decide]; omega
  rw [e1, e2]
  rfl
end Go.Proofs.YtagkfkdoibnhfaaDoor.K
end
section
namespace Go.Proofs.YtagkfkdoibnhfaaDoor.K
open Go.RowKit Go.Proofs.YtagkfkdoibnhfaaDoorW.PrintWords Go.Proofs.YtagkfkdoibnhfaaDoorW.PrintMore Go.Proofs.YtagkfkdoibnhfaaDoor.H
def missAt (was l : List Int) (k : Nat) : Bool := decide (was.getD k 0 ≠ -2) && decide (was.getD k 0 ≠ l.getD k 0)
theorem missOf_eq (was l : List Int) : missOf was l = (List.range l.length).countP (missAt was l) := rfl
theorem drop_range_cons (n j : Nat) (h : j < n) : (List.range n).drop j = j :: (List.range n).drop (j + 1) := by
 rw [List.drop_eq_getElem_cons (by simpa using h)]
 simp
theorem rd_get (l : List Int) (i : Nat) : rd l (i : Int) = l.getD i 0 := by unfold rd; rw [Int.toNat_natCast]
theorem idx_is (p j n q : Nat) (hq : q = p * n) (h1 : q ≤ 1000) (h2 : j ≤ 1000) : wrap64 (wrap64 ((p : Int) * (n : Int)) + (j : Int)) = ((q + j : Nat) : Int) := by
 have e0 : (p : Int) * (n : Int) = (q : Int) := by rw [hq]; simp
 rw [e0, w64 (n := (q : Int)) (by omega) (by omega), w64 (by omega) (by omega)]
 omega
theorem oth_l1 (T O L a b : Int) (p q : Nat) (R : List S66) (hs : List S60) (i : Nat) (hi : i < hs.length) (hmax : hs.length ≤ 100) (K0 : Nat) (Fc : Nat → Int) (B : Nat) (hB : B ≤ 1000)
  (hc : ∀ k n, K0 ≤ k → n ≤ B + 4 → saronref06_otherwise.l0 k hs (p : Int) a b (n : Int) ((i + 1 : Nat) : Int) T O L R = some (Fc n)) (l : List Int) (hl : l.length ≤ 4) (hq : q = p * l.length) (hlen : q + l.length ≤ hs[i].f1.length) (hs1 : hs[i].f1.length ≤ 1000) (d : Nat) :
  ∀ (k j n : Nat), l.length - j = d → j ≤ l.length → n ≤ B + j → K0 + d + 1 ≤ k →
   saronref06_otherwise.l1 k hs (p : Int) a b (n : Int) (i : Int) l (j : Int) T O L R = some (Fc (n + ((List.range l.length).drop j).countP (missAt (hs[i].f1.drop q) l))) := by
 induction d with
 | zero =>
  intro k j n hd hj hn hk
  obtain ⟨k, rfl⟩ : ∃ m, k = m + 1 := ⟨k - 1, by omega⟩
  obtain rfl : j = l.length := by omega
  simp only [saronref06_otherwise.l1]
  have e0 : (List.range l.length).drop l.length = [] := List.drop_eq_nil_of_le (by rw [List.length_range]; exact Nat.le_refl _)
  rw [if_neg (by omega), up1 i (by omega), hc k n (by omega) (by omega), e0]
  rfl
 | succ d ih =>
  intro k j n hd hj hn hk
  obtain ⟨k, rfl⟩ : ∃ m, k = m + 1 := ⟨k - 1, by omega⟩
  have hlt : j < l.length := by omega
  have ih' := fun n hn => ih k (j + 1) n (by omega) (by omega) hn (by omega)
  simp only [saronref06_otherwise.l1]
  rw [idx_is p j l.length q hq (by omega) (by omega), if_pos (by omega), if_pos (by omega), if_pos (by omega), if_pos (by omega), rd60 hs i hi, if_pos (by omega), up1 j (by omega), drop_range_cons _ _ hlt, List.countP_cons, rd_get, rd_get]
  have e1 : (hs[i].f1.drop q).getD j 0 = hs[i].f1.getD (q + j) 0 := by
   rw [List.getD_eq_getElem?_getD, List.getD_eq_getElem?_getD, List.getElem?_drop]
  have em : missAt (hs[i].f1.drop q) l j = (decide (hs[i].f1.getD (q + j) 0 ≠ -2) && decide (hs[i].f1.getD (q + j) 0 ≠ l.getD j 0)) := by
   unfold missAt
   rw [e1]
  by_cases h1 : hs[i].f1.getD (q + j) 0 = -2
  ·rw [if_pos h1, ih' n (by omega), if_neg (by rw [em, decide_eq_false (not_not_intro h1)]; simp)]
   rfl
  ·rw [if_neg h1, if_pos (by omega)]
   by_cases h2 : hs[i].f1.getD (q + j) 0 = l.getD j 0
   ·rw [if_pos h2, ih' n (by omega), if_neg (by rw [em, decide_eq_false (not_not_intro h2)]; simp)]
    rfl
   ·rw [if_neg h2, up1 n (by omega), ih' (n + 1) (by omega), if_pos (by rw [em, decide_eq_true h1, decide_eq_true h2]; rfl)]
    congr 2
    omega
theorem miss_cons (T : Int) (R : List S66) (h : S60) (r : List S60) (place a b : Int) : miss T R (h :: r) place a b = missOf (h.f1.drop (place.toNat * width (regAt R h.f0))) (strokes T R h.f0 a b) + miss T R r place a b := by
 simp [miss]
theorem oth_l0 (T O L a b : Int) (p : Nat) (R : List S66) (hs : List S60) (hS : okScale T O L R = true) (hH : okHeard L R hs = true) (hp : (p : Int) < L / 2) (ha : 0 ≤ a) (ha' : a ≤ 100) (hb : 0 ≤ b) (hb' : b ≤ 100) (d : Nat) :
  ∀ (k i n : Nat), hs.length - i = d → i ≤ hs.length → n ≤ 4 * i → 160 + 10 * d ≤ k →
   saronref06_otherwise.l0 k hs (p : Int) a b (n : Int) (i : Int) T O L R = some ((n + miss T R (hs.drop i) (p : Int) a b : Nat) : Int) := by
 obtain ⟨t1, t2, t3, t4, t5, t6, t7, t8, t9, hok⟩ := okScale_regs hS
 obtain ⟨hh5, hh⟩ := okHeard_get hH
 induction d with
 | zero =>
  intro k i n hd hi hn hk
  obtain ⟨k, rfl⟩ : ∃ m, k = m + 1 := ⟨k - 1, by omega⟩
  obtain rfl : i = hs.length := by omega
  simp only [saronref06_otherwise.l0]
  rw [if_neg (by omega), List.drop_length]
  simp [miss]
 | succ d ih =>
  intro k i n hd hi hn hk
  obtain ⟨k, rfl⟩ : ∃ m, k = m + 1 := ⟨k - 1, by omega⟩
  have hlt : i < hs.length := by omega
  obtain ⟨g1, g2, g3, g4⟩ := hh i hlt
  have hw := width_le (regAt R hs[i].f0)
  have hsw := strokes_width T R hs[i].f0 a b
  have hlen : p * (strokes T R hs[i].f0 a b).length + (strokes T R hs[i].f0 a b).length ≤ hs[i].f1.length := by
   rw [hsw]
   have : ((p : Int) + 1) * (width (regAt R hs[i].f0) : Int) ≤ L / 2 * (width (regAt R hs[i].f0) : Int) := Int.mul_le_mul_of_nonneg_right (by omega) (by omega)
   rw [← g3] at this
   have e : ((p : Int) + 1) * (width (regAt R hs[i].f0) : Int) = ((p * width (regAt R hs[i].f0) + width (regAt R hs[i].f0) : Nat) : Int) := by rw [Int.add_mul]; simp
   rw [e] at this
   exact Int.ofNat_le.1 this
  have hs1 : hs[i].f1.length ≤ 1000 := by
   have : L / 2 * (width (regAt R hs[i].f0) : Int) ≤ 8 * 4 := Int.mul_le_mul (by omega) (by omega) (by omega) (by omega)
   omega
  have h1 := oth_l1 T O L a b p _ R hs i hlt (by omega) (160 + 10 * d) (fun n => ((n + miss T R (hs.drop (i + 1)) (p : Int) a b : Nat) : Int)) (4 * i) (by omega) (fun k n hk hn => ih k (i + 1) n (by omega) (by omega) (by omega) hk) (strokes T R hs[i].f0 a b) (by rw [hsw]; exact hw) rfl hlen hs1 (strokes T R hs[i].f0 a b).length k 0 n (Nat.sub_zero _) (Nat.zero_le _) (by omega) (by rw [hsw]; omega)
  simp only [saronref06_otherwise.l0]
  rw [if_pos (by omega), if_pos (by omega), rd60 hs i hlt, rbar_f T O L R hs[i].f0 a b t1 t2 g1 g2 (hok _ g1 g2) ha ha' hb hb' k (by omega), Option.bind_some, List.drop_eq_getElem_cons hlt, miss_cons]
  refine h1.trans ?_
  rw [List.drop_zero, missOf_eq, Int.toNat_natCast, ← hsw]
  congr 2
  omega
theorem otherwise_f (T O L a b : Int) (p : Nat) (R : List S66) (hs : List S60) (hS : okScale T O L R = true) (hH : okHeard L R hs = true) (hp : (p : Int) < L / 2) (ha : 0 ≤ a) (ha' : a ≤ 100) (hb : 0 ≤ b) (hb' : b ≤ 100) (k : Nat) (hk : 300 ≤ k) :
  saronref06_otherwise.f k T O L R hs (p : Int) a b = some (miss T R hs (p : Int) a b : Int) := by
 obtain ⟨hh5, _⟩ := okHeard_get hH
 have h := oth_l0 T O L a b p R hs hS hH hp ha ha' hb hb' hs.length k 0 0 (Nat.sub_zero _) (Nat.zero_le _) (Nat.zero_le _) (by omega)
 rw [List.drop_zero, Nat.zero_add] at h
 exact h
end Go.Proofs.YtagkfkdoibnhfaaDoor.K
end
section
namespace Go.Proofs.YtagkfkdoibnhfaaDoor.H
open Go.RowKit Go.Proofs.YtagkfkdoibnhfaaDoorW.PrintWords Go.Proofs.YtagkfkdoibnhfaaDoorW.PrintLast Go.Proofs.YtagkfkdoibnhfaaDoorW.PrintMore
attribute [local go_sem] max2_int min2_int max_two min_two max_three min_three max_four min_four   -- for this text's walks alone
set_option linter.unusedVariables false
set_option linter.unusedSimpArgs false
end Go.Proofs.YtagkfkdoibnhfaaDoor.H
end
