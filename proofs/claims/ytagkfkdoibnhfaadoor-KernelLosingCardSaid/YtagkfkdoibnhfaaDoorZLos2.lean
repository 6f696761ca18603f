/- KernelLosing: for every scale, anything heard and any three numbers that choose the entry, the stroke and the place the law returns true, and each argument reads afterwards as it read before. Condition: when the call begins the package's table of rules reads as the program's text lays it; the card ties that to the text. -/
import Derived.Below
import Derived.Carry
import Derived.LaidMore
import Derived.OpenShut
import Derived.ProofKit
import Derived.SevenTiedAt
import Derived.SizedLaws
import Derived.Stop.Joined
import Derived.WalkKit
import Derived.Test.YtagkfkdoibnhfaaDoorCards
import Derived.Test.YtagkfkdoibnhfaaDoorTie
import Derived.Test.YtagkfkdoibnhfaaDoorZB2
import Derived.Test.YtagkfkdoibnhfaaDoorZB4
import Derived.Test.YtagkfkdoibnhfaaDoorZLos1
set_option linter.all false
section
namespace Go.Proofs.YtagkfkdoibnhfaaDoor.H
open Go.RowKit Go.Proofs.YtagkfkdoibnhfaaDoorW.PrintWords Go.Proofs.YtagkfkdoibnhfaaDoorW.PrintLast Go.Proofs.YtagkfkdoibnhfaaDoorW.PrintMore
attribute [local go_sem] max2_int min2_int max_two min_two max_three min_three max_four min_four   -- for this text's walks alone
set_option linter.unusedVariables false
set_option linter.unusedSimpArgs false
open Go.Proofs.YtagkfkdoibnhfaaDoor.K
def saronlaw06_KernelLosing.T6 : Bool × List (List Nat × List Nat) := (true, [([], []), ([0], [0]), ([], []), ([2], [2]), ([1, 3], [1, 3]), ([], []), ([5], [5]), ([], []), ([7], [7]), ([6, 8, 4], [6, 8]), ([4, 9, 0, 1, 2, 3, 4], [4]), ([9, 10, 0, 1, 2, 3, 4, 5, 6, 7, 8, 9, 10], [9])])
def saronlaw06_KernelLosing.B6 : List Nat := [0, 1, 0, 4, 15, 0, 32, 0, 128, 511, 1023, 2047]
theorem saronlaw06_KernelLosing.tab6 : rtab .any (opsOf Tryd.f11 6) = saronlaw06_KernelLosing.T6 := by kernel_rfl
theorem saronlaw06_KernelLosing.bits6 : waitsOk saronlaw06_KernelLosing.T6.2 saronlaw06_KernelLosing.B6 = true := by kernel_rfl
def saronlaw06_KernelLosing.T19 : Bool × List (List Nat × List Nat) := (true, [([], []), ([], []), ([], []), ([2], [2]), ([3], [3]), ([1, 4], [1, 4]), ([0, 5], [0, 5]), ([6], [6]), ([7], [7]), ([7], [7]), ([8, 6, 0, 1, 2, 3, 4, 5, 6, 7, 8], [8]), ([9, 10, 0, 1, 2, 3, 4, 5, 6, 7, 8, 9, 10], [9])])
def saronlaw06_KernelLosing.B19 : List Nat := [0, 0, 0, 4, 12, 30, 63, 127, 255, 255, 511, 2047]
theorem saronlaw06_KernelLosing.tab19 : rtab .any (opsOf Tryd.f11 19) = saronlaw06_KernelLosing.T19 := by kernel_rfl
theorem saronlaw06_KernelLosing.bits19 : waitsOk saronlaw06_KernelLosing.T19.2 saronlaw06_KernelLosing.B19 = true := by kernel_rfl
theorem keep_V {α : Type} {d : Kd α} {e base : Nat} {ok : Nat → Prop} {w w' : World} {m : Nat} {v : Value} {xs : List α} (hq : w.drewN m = w') (h : Kd.V d e w base ok v xs) : Kd.V d e w' base ok v xs := by subst hq; exact Kd.V_drewN h m
theorem keep_N {α : Type} {d : Kd α} {e base : Nat} {ok : Nat → Prop} {w w' : World} {m : Nat} {v : Value} {xs : List α} (hq : w.drewN m = w') (h : Kd.N d e w base ok v xs) : Kd.N d e w' base ok v xs := by subst hq; exact Kd.N_drewN h m
theorem k60_mkV (W : World) (ok : Nat → Prop) (x : S60) {base : Nat} {u : Value} (h : Kd.R (Kd.int .i64) 3 W base ok u x.f1) : Kd.FK k60 W ok x [.int .i64 x.f0, u] := by
 obtain ⟨A, c, rfl⟩ := Kd.R_slice h
 exact k60_mkF W ok x (Kd.R_reads' h).2.1 (Kd.R_F h)
def RegLos.T24 : Bool × List (List Nat × List Nat) := (true, [([], []), ([], []), ([0, 1], [0, 1]), ([], []), ([], []), ([3, 4], [3, 4]), ([5], [5]), ([6], [6]), ([2, 7, 2], [2, 7]), ([8, 8, 0, 1, 2, 3, 4, 5, 6, 7, 8], [8])])
def RegLos.B24 : List Nat := [0, 0, 3, 0, 0, 24, 56, 120, 255, 511]
theorem RegLos.tab24 : rtab .any (opsOf Tryd.f11 24) = RegLos.T24 := by kernel_rfl
theorem RegLos.bits24 : waitsOk RegLos.T24.2 RegLos.B24 = true := by kernel_rfl
set_option maxHeartbeats 8000000 in
set_option maxRecDepth 100000 in
theorem saronlaw06_KernelLosing.calls (k : Nat) (a0_0 : Int) (a0_1 : Int) (a0_2 : Int) (A0_3 : Option Addr) (c0_3 : Nat) (l0_3 : List (S66)) (P1_ : Nat → Prop) (A1 : Option Addr) (c1 : Nat) (l1 : List (S60)) (a2_0 : Int) (a2_1 : Int) (a2_2 : Int) (r : Bool) (w : World) (hr0_3 : Kd.C k66 w A0_3 l0_3.length l0_3) (hc0_3 : l0_3.length ≤ c0_3) (hs1 : Kd.V k60 60 w w.heap.size (fun k_ => P1_ k_) (.slice A1 l1.length c1) l1) (hG : Glob w) (hrt : r = true) (h : saronlaw06_KernelLosing.f k a0_0 a0_1 a0_2 l0_3 l1 a2_0 a2_1 a2_2 = some r) :
  Calls Tryd.prog 11 #[.agg #[.int .i64 a0_0, .int .i64 a0_1, .int .i64 a0_2, .slice A0_3 l0_3.length c0_3], .slice A1 l1.length c1, .agg #[.int .i64 a2_0, .int .i64 a2_1, .int .i64 a2_2]] w fun e w' => e = .returned (.bool r) ∧ Below w.heap.size w w' := by
 have HRT := zh hrt
 clear hrt
 have hu24 := Tryd.underlying24
 have hu67 := Tryd.underlying67
 have hu60 := Tryd.underlying60
 have HG := zh hG
 clear hG
 have HR0_3 := zh hr0_3
 have HC0_3 := zh hc0_3
 clear hr0_3 hc0_3
 have HO1 := zh (show Kd.V k60 60 w w.heap.size (fun k_ => (P1_ k_ ∨ w.heap.size ≤ k_)) (.slice A1 l1.length c1) l1 from Kd.V_mono hs1 (fun k_ hk => .inl hk))
 have HB := zh (Below.refl w.heap.size w)
 have H : ((kernel_Many.f a0_0 a0_1 a0_2 l0_3 l1).bind fun bt185 => ((saronlaw06_sound.f k a0_0 a0_1 a0_2 l0_3).bind fun t187 => (if t187 = true then (saronlaw06_KernelLosing.j0 k l1 bt185.1 bt185.2 ((l1.length : Int) == 0) a0_0 a0_1 a0_2 l0_3 a2_0 a2_1 a2_2) else (saronlaw06_KernelLosing.j0 k l1 bt185.1 bt185.2 true a0_0 a0_1 a0_2 l0_3 a2_0 a2_1 a2_2)))) = some r := h
 clear h
 replace H := Option.bind_eq_some_iff.mp H
 obtain ⟨⟨t185, t186⟩, A40, H⟩ := H
 replace H : ((saronlaw06_sound.f k a0_0 a0_1 a0_2 l0_3).bind fun t187 => (if t187 = true then (saronlaw06_KernelLosing.j0 k l1 t185 t186 ((l1.length : Int) == 0) a0_0 a0_1 a0_2 l0_3 a2_0 a2_1 a2_2) else (saronlaw06_KernelLosing.j0 k l1 t185 t186 true a0_0 a0_1 a0_2 l0_3 a2_0 a2_1 a2_2))) = some r := H
 have A4 := zh A40
 clear A40
 have HC5 := zh H
 clear H
 go_enter Tryd.func11, Tryd.ntmps11
 go_upto_region 2 with (first | ((with_reducible refine gate_dst (N := 3) rfl ?_); (try (refine gate_guard (by rfl) ?_; dsimp only)); refine box_event ?hg (N := 3) ?hd (cs := #[.int .i64 a0_0, .int .i64 a0_1, .int .i64 a0_2, .slice A0_3 l0_3.length c0_3]) (t := 24) ?hr ?_; (case hd => rfl); (case hg => rfl); (case hr => first | (go_simp; done) | (go_simp; rfl)); intro gb183 hg w6 hbox hb; have n0_ := zh (Kd.V_below (Kd.V_elderB (zV HO1) gb183 (Nat.le_of_eq hg.symm)) hb); have n1_ := zh (below_step zb hb); have n2_ := zh (hbox); have n3_ := zh ((by rw [hg]; exact (below_size zb) : w.heap.size ≤ gb183)); have n4_ := zh ((by rw [hg]; exact (below_size zb) : w.heap.size ≤ gb183)); clear HO1; clear HB; have HO1 := n0_; have HB := n1_; have BK183 := n2_; have GW183 := n3_; have GE183 := n4_; clear n0_ n1_ n2_ n3_ n4_; clear hb hbox hg) | ((with_reducible refine gate_dst (N := 5) rfl ?_); (try (refine gate_guard (by rfl) ?_; dsimp only)); refine box_event ?hg (N := 5) ?hd (cs := #[.int .i64 a2_0, .int .i64 a2_1, .int .i64 a2_2]) (t := 67) ?hr ?_; (case hd => rfl); (case hg => rfl); (case hr => first | (go_simp; done) | (go_simp; rfl)); intro gb184 hg w7 hbox hb; have n0_ := zh (Kd.V_below (Kd.V_elderB (zV HO1) gb184 (Nat.le_of_eq hg.symm)) hb); have n1_ := zh (blk_below (g := gb183) (o := .cells #[.int .i64 a0_0, .int .i64 a0_1, .int .i64 a0_2, .slice A0_3 l0_3.length c0_3] 24 (0, 0)) (zc BK183) hb); have n2_ := zh (below_step zb hb); have n3_ := zh (hbox); have n4_ := zh ((by rw [hg]; exact (below_size zb) : w.heap.size ≤ gb184)); have n5_ := zh ((by rw [hg]; exact (below_size zb) : w.heap.size ≤ gb184)); have n6_ := zh ((by rw [hg]; exact Nat.ne_of_lt (blk_lt (g := gb183) (o := .cells #[.int .i64 a0_0, .int .i64 a0_1, .int .i64 a0_2, .slice A0_3 l0_3.length c0_3] 24 (0, 0)) (zc BK183)) : gb183 ≠ gb184)); have n7_ := zh ((by rw [hg]; exact Nat.ne_of_gt (blk_lt (g := gb183) (o := .cells #[.int .i64 a0_0, .int .i64 a0_1, .int .i64 a0_2, .slice A0_3 l0_3.length c0_3] 24 (0, 0)) (zc BK183)) : gb184 ≠ gb183)); clear HO1; clear BK183; clear HB; have HO1 := n0_; have BK183 := n1_; have HB := n2_; have BK184 := n3_; have GW184 := n4_; have GE184 := n5_; have NB183_184 := n6_; have NB184_183 := n7_; clear n0_ n1_ n2_ n3_ n4_ n5_ n6_ n7_; clear hb hbox hg; have hnb8 := NB183_184.out; have hnc8 := NB184_183.out; have hcz9_0 : w7.cell? ⟨gb183, 0, none⟩ = some (.int .i64 a0_0) := vb BK183 0; have hcz9_1 : w7.cell? ⟨gb183, 1, none⟩ = some (.int .i64 a0_1) := vb BK183 1; have hcz9_2 : w7.cell? ⟨gb183, 2, none⟩ = some (.int .i64 a0_2) := vb BK183 2; have hcz9_3 : w7.cell? ⟨gb183, 3, none⟩ = some (.slice A0_3 l0_3.length c0_3) := vb BK183 3; have hfz9_0 := blk_frozen BK183.out 0; have hfz9_1 := blk_frozen BK183.out 1; have hfz9_2 := blk_frozen BK183.out 2; have hfz9_3 := blk_frozen BK183.out 3) | ((with_reducible refine gate_callee (f := 22) rfl ?_); refine goesL_ (some 27) rfl rfl Tryd.func22 zk rfl #[.agg #[.int .i64 a0_0, .int .i64 a0_1, .int .i64 a0_2, .slice A0_3 l0_3.length c0_3], .slice A1 l1.length c1] rfl zm ?_; (with_reducible refine (kernel_Many.calls a0_0 a0_1 a0_2 _ _ l0_3 _ _ l1 t185 t186 _ ?side1 ?side2 ?side3 ?side4 ?side5 A4.out).mono ?_); (case side1 => repeat (first | exact (Kd.C_below HR0_3.out HB.out) | (with_reducible refine Kd.C_alloc ?_ _) | (with_reducible refine Kd.C_drewN ?_ _) | (with_reducible refine Kd.C_drew ?_))); (case side2 => exact HC0_3.out); (case side3 => repeat (first | exact (Kd.V_reads' HO1.out).2.2 | (with_reducible refine Kd.C_alloc ?_ _) | (with_reducible refine Kd.C_drewN ?_ _) | (with_reducible refine Kd.C_drew ?_))); (case side4 => exact (Kd.V_reads' HO1.out).2.1); (case side5 => exact Glob.below HG.out zb); rintro e w10 ⟨rfl, hb⟩; refine ⟨_, rfl, ?_⟩; have n0_ := zh (Kd.V_below (zV HO1) hb); have n1_ := zh (blk_below (g := gb183) (o := .cells #[.int .i64 a0_0, .int .i64 a0_1, .int .i64 a0_2, .slice A0_3 l0_3.length c0_3] 24 (0, 0)) (zc BK183) hb); have n2_ := zh (blk_below (g := gb184) (o := .cells #[.int .i64 a2_0, .int .i64 a2_1, .int .i64 a2_2] 67 (0, 0)) (zc BK184) hb); have n3_ := zh (below_step zb hb); clear HO1; clear BK183; clear BK184; clear HB; have HO1 := n0_; have BK183 := n1_; have BK184 := n2_; have HB := n3_; clear n0_ n1_ n2_ n3_; (try clear hb); (try clear hb2); (try clear hk); (try clear hi)))
 (try simp only [Act.put, List.setIfInBounds_toArray, List.set_cons_zero, List.set_cons_succ])
 go_cut [37] (fun v37 wc => ∃ (kq : Nat) (x37_4 : Bool), v37 = .bool x37_4 ∧ Aside0 (saronlaw06_KernelLosing.j0 kq l1 t185 t186 x37_4 a0_0 a0_1 a0_2 l0_3 a2_0 a2_1 a2_2 = some r) ∧ Aside0 (kq ≤ k) ∧ Aside0 (Kd.V k60 60 wc w.heap.size (fun k_ => (P1_ k_ ∨ w.heap.size ≤ k_) ∧ k_ ≠ gb183 ∧ k_ ≠ gb184) (.slice A1 l1.length c1) l1) ∧ Aside0 (wc.heap[gb183]? = some (.cells #[.int .i64 a0_0, .int .i64 a0_1, .int .i64 a0_2, (.slice A0_3 l0_3.length c0_3)] 24 (0, 0))) ∧ Aside0 (wc.heap[gb184]? = some (.cells #[.int .i64 a2_0, .int .i64 a2_1, .int .i64 a2_2] 67 (0, 0))) ∧ Aside0 (Below w.heap.size w wc))
 case first =>
  as_aux_lemma =>
   have H := HC5.out
   clear HC5
   replace H := Option.bind_eq_some_iff.mp H
   obtain ⟨t187, A110, H⟩ := H
   replace H : (if t187 = true then (saronlaw06_KernelLosing.j0 k l1 t185 t186 ((l1.length : Int) == 0) a0_0 a0_1 a0_2 l0_3 a2_0 a2_1 a2_2) else (saronlaw06_KernelLosing.j0 k l1 t185 t186 true a0_0 a0_1 a0_2 l0_3 a2_0 a2_1 a2_2)) = some r := H
   have A11 := zh A110
   clear A110
   by_cases c12 : t187 = true
   ·subst c12
    have H1 : (saronlaw06_KernelLosing.j0 k l1 t185 t186 ((l1.length : Int) == 0) a0_0 a0_1 a0_2 l0_3 a2_0 a2_1 a2_2) = some r := by rw [if_pos rfl] at H; exact H
    clear H
    have H := H1
    clear H1
    have H' := zh H
    clear H
    have hnb13 := NB183_184.out
    have hnc13 := NB184_183.out
    have hcz14_0 : w10.cell? ⟨gb183, 0, none⟩ = some (.int .i64 a0_0) := vb BK183 0
    have hcz14_1 : w10.cell? ⟨gb183, 1, none⟩ = some (.int .i64 a0_1) := vb BK183 1
    have hcz14_2 : w10.cell? ⟨gb183, 2, none⟩ = some (.int .i64 a0_2) := vb BK183 2
    have hcz14_3 : w10.cell? ⟨gb183, 3, none⟩ = some (.slice A0_3 l0_3.length c0_3) := vb BK183 3
    have hfz14_0 := blk_frozen BK183.out 0
    have hfz14_1 := blk_frozen BK183.out 1
    have hfz14_2 := blk_frozen BK183.out 2
    have hfz14_3 := blk_frozen BK183.out 3
    go_wp2_with (first | ((with_reducible refine gate_callee (f := 39) rfl ?_); refine goesL_ (some 31) rfl rfl Tryd.func39 zk rfl #[.agg #[.int .i64 a0_0, .int .i64 a0_1, .int .i64 a0_2, .slice A0_3 l0_3.length c0_3]] rfl zm ?_; (with_reducible refine (saronlaw06_sound.calls k a0_0 a0_1 a0_2 _ _ l0_3 true _ ?side1 ?side2 A11.out).mono ?_); (case side1 => repeat (first | exact (Kd.C_below HR0_3.out HB.out) | (with_reducible refine Kd.C_alloc ?_ _) | (with_reducible refine Kd.C_drewN ?_ _) | (with_reducible refine Kd.C_drew ?_))); (case side2 => exact HC0_3.out); rintro e w15 ⟨rfl, hb⟩; refine ⟨_, rfl, ?_⟩; have n0_ := zh (Kd.V_below (zV HO1) hb); have n1_ := zh (blk_below (g := gb183) (o := .cells #[.int .i64 a0_0, .int .i64 a0_1, .int .i64 a0_2, .slice A0_3 l0_3.length c0_3] 24 (0, 0)) (zc BK183) hb); have n2_ := zh (blk_below (g := gb184) (o := .cells #[.int .i64 a2_0, .int .i64 a2_1, .int .i64 a2_2] 67 (0, 0)) (zc BK184) hb); have n3_ := zh (below_step zb hb); clear HO1; clear BK183; clear BK184; clear HB; have HO1 := n0_; have BK183 := n1_; have BK184 := n2_; have HB := n3_; clear n0_ n1_ n2_ n3_; (try clear hb); (try clear hb2); (try clear hk); (try clear hi)))
    go_meet
    case rel => exact ⟨_, (((l1.length : Int) == 0)), ze, H', ⟨zo1⟩, ⟨by (with_reducible repeat (first | apply Kd.V_alloc | apply Kd.V_drewN | apply Kd.V_drew)); exact Kd.V_mono HO1.out (fun _ hk => ⟨hk.1.1, ⟨hk.1.2, hk.2⟩⟩)⟩, ⟨zc BK183⟩, ⟨zc BK184⟩, ⟨zb⟩⟩
   ·replace c12 := Bool.eq_false_iff.mpr c12
    subst c12
    have H1 : (saronlaw06_KernelLosing.j0 k l1 t185 t186 true a0_0 a0_1 a0_2 l0_3 a2_0 a2_1 a2_2) = some r := by rw [if_neg (show ¬ (false = true) by decide)] at H; exact H
    clear H
    have H := H1
    clear H1
    have H' := zh H
    clear H
    have hnb16 := NB183_184.out
    have hnc16 := NB184_183.out
    have hcz17_0 : w10.cell? ⟨gb183, 0, none⟩ = some (.int .i64 a0_0) := vb BK183 0
    have hcz17_1 : w10.cell? ⟨gb183, 1, none⟩ = some (.int .i64 a0_1) := vb BK183 1
    have hcz17_2 : w10.cell? ⟨gb183, 2, none⟩ = some (.int .i64 a0_2) := vb BK183 2
    have hcz17_3 : w10.cell? ⟨gb183, 3, none⟩ = some (.slice A0_3 l0_3.length c0_3) := vb BK183 3
    have hfz17_0 := blk_frozen BK183.out 0
    have hfz17_1 := blk_frozen BK183.out 1
    have hfz17_2 := blk_frozen BK183.out 2
    have hfz17_3 := blk_frozen BK183.out 3
    go_wp2_with (first | ((with_reducible refine gate_callee (f := 39) rfl ?_); refine goesL_ (some 31) rfl rfl Tryd.func39 zk rfl #[.agg #[.int .i64 a0_0, .int .i64 a0_1, .int .i64 a0_2, .slice A0_3 l0_3.length c0_3]] rfl zm ?_; (with_reducible refine (saronlaw06_sound.calls k a0_0 a0_1 a0_2 _ _ l0_3 false _ ?side1 ?side2 A11.out).mono ?_); (case side1 => repeat (first | exact (Kd.C_below HR0_3.out HB.out) | (with_reducible refine Kd.C_alloc ?_ _) | (with_reducible refine Kd.C_drewN ?_ _) | (with_reducible refine Kd.C_drew ?_))); (case side2 => exact HC0_3.out); rintro e w18 ⟨rfl, hb⟩; refine ⟨_, rfl, ?_⟩; have n0_ := zh (Kd.V_below (zV HO1) hb); have n1_ := zh (blk_below (g := gb183) (o := .cells #[.int .i64 a0_0, .int .i64 a0_1, .int .i64 a0_2, .slice A0_3 l0_3.length c0_3] 24 (0, 0)) (zc BK183) hb); have n2_ := zh (blk_below (g := gb184) (o := .cells #[.int .i64 a2_0, .int .i64 a2_1, .int .i64 a2_2] 67 (0, 0)) (zc BK184) hb); have n3_ := zh (below_step zb hb); clear HO1; clear BK183; clear BK184; clear HB; have HO1 := n0_; have BK183 := n1_; have BK184 := n2_; have HB := n3_; clear n0_ n1_ n2_ n3_; (try clear hb); (try clear hb2); (try clear hk); (try clear hi)))
    go_meet
    case rel => exact ⟨_, (true), ze, H', ⟨zo1⟩, ⟨by (with_reducible repeat (first | apply Kd.V_alloc | apply Kd.V_drewN | apply Kd.V_drew)); exact Kd.V_mono HO1.out (fun _ hk => ⟨hk.1.1, ⟨hk.1.2, hk.2⟩⟩)⟩, ⟨zc BK183⟩, ⟨zc BK184⟩, ⟨zb⟩⟩
 case rest =>
  as_aux_lemma =>
   clear HC5
   try clear c1
   try clear c2
   try clear p2
   try clear c3
   try clear c8
   try clear c11
   try clear c12
   try clear c13
   try clear c16
   try clear hcz14_0
   try clear hcz14_1
   try clear hcz14_2
   try clear hcz14_3
   try clear hcz17_0
   try clear hcz17_1
   try clear hcz17_2
   try clear hcz17_3
   try clear hcz9_0
   try clear hcz9_1
   try clear hcz9_2
   try clear hcz9_3
   try clear hfz14_0
   try clear hfz14_1
   try clear hfz14_2
   try clear hfz14_3
   try clear hfz17_0
   try clear hfz17_1
   try clear hfz17_2
   try clear hfz17_3
   try clear hfz9_0
   try clear hfz9_1
   try clear hfz9_2
   try clear hfz9_3
   obtain ⟨kq, x37_4, rfl, HA, HJ4, HO_1, BK183, BK184, HB⟩ := hcut
   cases kq with
   | zero => exact absurd HA.out (by simp [saronlaw06_KernelLosing.j0])
   | succ kj4 =>
    have H := HA.out
    clear HA
    simp only [saronlaw06_KernelLosing.j0] at H
    by_cases c19 : x37_4 = true
    ·subst c19
     have H1 : (if t186 = 60 then (if t185 = 0 then ((saronlaw06_works.f).bind fun t188 => (some t188)) else (some false)) else (if t186 = 61 then (if t185 = 0 then ((saronlaw06_works.f).bind fun t189 => (some t189)) else (some false)) else (some false))) = some r := by rw [if_pos rfl] at H; exact H
     clear H
     have H := H1
     clear H1
     by_cases c20 : t186 = 60
     ·rw [if_pos c20] at H
      have c20b0 : (t186 == 60) = true := beq_iff_eq.mpr c20
      have c20b1 : (t186 != 60) = false := bne_eq_false_iff_eq.mpr c20
      clear c20
      by_cases c21 : t185 = 0
      ·rw [if_pos c21] at H
       have c21b0 : (t185 == 0) = true := beq_iff_eq.mpr c21
       have c21b1 : (t185 != 0) = false := bne_eq_false_iff_eq.mpr c21
       clear c21
       replace H := Option.bind_eq_some_iff.mp H
       obtain ⟨t188, A220, H⟩ := H
       replace H : (some t188) = some r := H
       have A22 := zh A220
       clear A220
       obtain rfl := Option.some.inj H
       go_wp2_with (first | (go_at_call 21; (with_reducible refine (saronlaw06_works.calls  t188 _ ?side1 A22.out).mono ?_); (case side1 => exact Glob.below HG.out zb); rintro e w23 ⟨rfl, hb⟩; have n0_ := zh (Kd.V_below (zV HO_1) hb); have n1_ := zh (blk_below (g := gb183) (o := .cells #[.int .i64 a0_0, .int .i64 a0_1, .int .i64 a0_2, .slice A0_3 l0_3.length c0_3] 24 (0, 0)) (zc BK183) hb); have n2_ := zh (blk_below (g := gb184) (o := .cells #[.int .i64 a2_0, .int .i64 a2_1, .int .i64 a2_2] 67 (0, 0)) (zc BK184) hb); have n3_ := zh (below_step zb hb); clear HO_1; clear BK183; clear BK184; clear HB; have HO_1 := n0_; have BK183 := n1_; have BK184 := n2_; have HB := n3_; clear n0_ n1_ n2_ n3_; (try clear hb); (try clear hb2); (try clear hk); (try clear hi)))
       go_ret
       exact ⟨zf, zb⟩
      ·rw [if_neg c21] at H
       have c21b0 : (t185 == 0) = false := beq_eq_false_iff_ne.mpr c21
       have c21b1 : (t185 != 0) = true := bne_iff_ne.mpr c21
       exact absurd ((Option.some.inj H).trans HRT.out) (by decide)
     ·rw [if_neg c20] at H
      have c20b0 : (t186 == 60) = false := beq_eq_false_iff_ne.mpr c20
      have c20b1 : (t186 != 60) = true := bne_iff_ne.mpr c20
      by_cases c24 : t186 = 61
      ·rw [if_pos c24] at H
       have c24b0 : (t186 == 61) = true := beq_iff_eq.mpr c24
       have c24b1 : (t186 != 61) = false := bne_eq_false_iff_eq.mpr c24
       clear c24
       by_cases c25 : t185 = 0
       ·rw [if_pos c25] at H
        have c25b0 : (t185 == 0) = true := beq_iff_eq.mpr c25
        have c25b1 : (t185 != 0) = false := bne_eq_false_iff_eq.mpr c25
        clear c25
        replace H := Option.bind_eq_some_iff.mp H
        obtain ⟨t189, A260, H⟩ := H
        replace H : (some t189) = some r := H
        have A26 := zh A260
        clear A260
        obtain rfl := Option.some.inj H
        go_wp2_with (first | (go_at_call 21; (with_reducible refine (saronlaw06_works.calls  t189 _ ?side1 A26.out).mono ?_); (case side1 => exact Glob.below HG.out zb); rintro e w27 ⟨rfl, hb⟩; have n0_ := zh (Kd.V_below (zV HO_1) hb); have n1_ := zh (blk_below (g := gb183) (o := .cells #[.int .i64 a0_0, .int .i64 a0_1, .int .i64 a0_2, .slice A0_3 l0_3.length c0_3] 24 (0, 0)) (zc BK183) hb); have n2_ := zh (blk_below (g := gb184) (o := .cells #[.int .i64 a2_0, .int .i64 a2_1, .int .i64 a2_2] 67 (0, 0)) (zc BK184) hb); have n3_ := zh (below_step zb hb); clear HO_1; clear BK183; clear BK184; clear HB; have HO_1 := n0_; have BK183 := n1_; have BK184 := n2_; have HB := n3_; clear n0_ n1_ n2_ n3_; (try clear hb); (try clear hb2); (try clear hk); (try clear hi)))
        go_ret
        exact ⟨zf, zb⟩
       ·rw [if_neg c25] at H
        have c25b0 : (t185 == 0) = false := beq_eq_false_iff_ne.mpr c25
        have c25b1 : (t185 != 0) = true := bne_iff_ne.mpr c25
        exact absurd ((Option.some.inj H).trans HRT.out) (by decide)
      ·rw [if_neg c24] at H
       have c24b0 : (t186 == 61) = false := beq_eq_false_iff_ne.mpr c24
       have c24b1 : (t186 != 61) = true := bne_iff_ne.mpr c24
       exact absurd ((Option.some.inj H).trans HRT.out) (by decide)
    ·replace c19 := Bool.eq_false_iff.mpr c19
     subst c19
     have H1 : (if t186 = 0 then ((saronref00_Turn.f a2_0 (l1.length : Int)).bind fun t191 => ((saronref00_Turn.f a2_2 a0_2).bind fun t192 => ((some (([] : List (S60)) : List (S60))).bind fun y193 => (if y193.length + l1.length < 4398046511104 then ((some (y193 ++ l1 : List (S60))).bind fun y196 => ((some (([] : List Int) : List Int)).bind fun y199 => (if 0 ≤ t191 then (if t191 < (l1.length : Int) then (if y199.length + ((rd_T60 l1 t191).f1).length < 17592186044416 then ((some (y199 ++ ((rd_T60 l1 t191).f1) : List Int)).bind fun y203 => (if (y203.length : Int) = 0 then (some false) else ((saronref00_Turn.f a2_1 (y203.length : Int)).bind fun t206 => (if 0 ≤ t206 then (if t206 < (y203.length : Int) then ((saronlaw06_of.f ((rd_T60 l1 t191).f0) (y203.set (t206 : Int).toNat (-2))).bind fun bt209 => (if t191 < (y196.length : Int) then ((some (y196.set (t191 : Int).toNat (⟨bt209.1, bt209.2⟩ : S60) : List (S60))).bind fun y213 => ((kernel_Many.f a0_0 a0_1 a0_2 l0_3 y213).bind fun bt214 => ((kernel_Can.f a0_0 a0_1 a0_2 l0_3 l1 t192).bind fun bt216 => ((kernel_Can.f a0_0 a0_1 a0_2 l0_3 y213 t192).bind fun bt220 => (if bt214.2 = 0 then (if bt214.1 < t185 then (saronlaw06_KernelLosing.j1 kj4 l1 t185 t191 t192 bt216.1 bt216.2 true a0_0 a0_1 a0_2 l0_3) else (if ((bt216.2 == 0) != (decide (t185 > 0))) = true then (saronlaw06_KernelLosing.j1 kj4 l1 t185 t191 t192 bt216.1 bt216.2 true a0_0 a0_1 a0_2 l0_3) else (if ((bt220.2 == 0) != (decide (bt214.1 > 0))) = true then (saronlaw06_KernelLosing.j1 kj4 l1 t185 t191 t192 bt216.1 bt216.2 true a0_0 a0_1 a0_2 l0_3) else (if bt216.2 = 0 then ((saronlaw06_all.f kj4 bt216.1 bt220.1).bind fun t224 => (saronlaw06_KernelLosing.j1 kj4 l1 t185 t191 t192 bt216.1 bt216.2 (!t224) a0_0 a0_1 a0_2 l0_3)) else (saronlaw06_KernelLosing.j1 kj4 l1 t185 t191 t192 bt216.1 bt216.2 false a0_0 a0_1 a0_2 l0_3))))) else (saronlaw06_KernelLosing.j1 kj4 l1 t185 t191 t192 bt216.1 bt216.2 true a0_0 a0_1 a0_2 l0_3)))))) else (none))) else (none)) else (none))))) else (none)) else (none)) else (none)))) else (none))))) else (if t186 = 61 then (if t185 = 0 then ((saronlaw06_works.f).bind fun t190 => (some t190)) else (some false)) else (some false))) = some r := by rw [if_neg (show ¬ (false = true) by decide)] at H; exact H
     clear H
     have H := H1
     clear H1
     by_cases c28 : t186 = 0
     ·rw [if_pos c28] at H
      have c28b0 : (t186 == 0) = true := beq_iff_eq.mpr c28
      have c28b1 : (t186 != 0) = false := bne_eq_false_iff_eq.mpr c28
      clear c28
      replace H := Option.bind_eq_some_iff.mp H
      obtain ⟨t191, A290, H⟩ := H
      replace H : ((saronref00_Turn.f a2_2 a0_2).bind fun t192 => ((some (([] : List (S60)) : List (S60))).bind fun y193 => (if y193.length + l1.length < 4398046511104 then ((some (y193 ++ l1 : List (S60))).bind fun y196 => ((some (([] : List Int) : List Int)).bind fun y199 => (if 0 ≤ t191 then (if t191 < (l1.length : Int) then (if y199.length + ((rd_T60 l1 t191).f1).length < 17592186044416 then ((some (y199 ++ ((rd_T60 l1 t191).f1) : List Int)).bind fun y203 => (if (y203.length : Int) = 0 then (some false) else ((saronref00_Turn.f a2_1 (y203.length : Int)).bind fun t206 => (if 0 ≤ t206 then (if t206 < (y203.length : Int) then ((saronlaw06_of.f ((rd_T60 l1 t191).f0) (y203.set (t206 : Int).toNat (-2))).bind fun bt209 => (if t191 < (y196.length : Int) then ((some (y196.set (t191 : Int).toNat (⟨bt209.1, bt209.2⟩ : S60) : List (S60))).bind fun y213 => ((kernel_Many.f a0_0 a0_1 a0_2 l0_3 y213).bind fun bt214 => ((kernel_Can.f a0_0 a0_1 a0_2 l0_3 l1 t192).bind fun bt216 => ((kernel_Can.f a0_0 a0_1 a0_2 l0_3 y213 t192).bind fun bt220 => (if bt214.2 = 0 then (if bt214.1 < t185 then (saronlaw06_KernelLosing.j1 kj4 l1 t185 t191 t192 bt216.1 bt216.2 true a0_0 a0_1 a0_2 l0_3) else (if ((bt216.2 == 0) != (decide (t185 > 0))) = true then (saronlaw06_KernelLosing.j1 kj4 l1 t185 t191 t192 bt216.1 bt216.2 true a0_0 a0_1 a0_2 l0_3) else (if ((bt220.2 == 0) != (decide (bt214.1 > 0))) = true then (saronlaw06_KernelLosing.j1 kj4 l1 t185 t191 t192 bt216.1 bt216.2 true a0_0 a0_1 a0_2 l0_3) else (if bt216.2 = 0 then ((saronlaw06_all.f kj4 bt216.1 bt220.1).bind fun t224 => (saronlaw06_KernelLosing.j1 kj4 l1 t185 t191 t192 bt216.1 bt216.2 (!t224) a0_0 a0_1 a0_2 l0_3)) else (saronlaw06_KernelLosing.j1 kj4 l1 t185 t191 t192 bt216.1 bt216.2 false a0_0 a0_1 a0_2 l0_3))))) else (saronlaw06_KernelLosing.j1 kj4 l1 t185 t191 t192 bt216.1 bt216.2 true a0_0 a0_1 a0_2 l0_3)))))) else (none))) else (none)) else (none))))) else (none)) else (none)) else (none)))) else (none)))) = some r := H
      have A29 := zh A290
      clear A290
      replace H := Option.bind_eq_some_iff.mp H
      obtain ⟨t192, A300, H⟩ := H
      replace H : ((some (([] : List (S60)) : List (S60))).bind fun y193 => (if y193.length + l1.length < 4398046511104 then ((some (y193 ++ l1 : List (S60))).bind fun y196 => ((some (([] : List Int) : List Int)).bind fun y199 => (if 0 ≤ t191 then (if t191 < (l1.length : Int) then (if y199.length + ((rd_T60 l1 t191).f1).length < 17592186044416 then ((some (y199 ++ ((rd_T60 l1 t191).f1) : List Int)).bind fun y203 => (if (y203.length : Int) = 0 then (some false) else ((saronref00_Turn.f a2_1 (y203.length : Int)).bind fun t206 => (if 0 ≤ t206 then (if t206 < (y203.length : Int) then ((saronlaw06_of.f ((rd_T60 l1 t191).f0) (y203.set (t206 : Int).toNat (-2))).bind fun bt209 => (if t191 < (y196.length : Int) then ((some (y196.set (t191 : Int).toNat (⟨bt209.1, bt209.2⟩ : S60) : List (S60))).bind fun y213 => ((kernel_Many.f a0_0 a0_1 a0_2 l0_3 y213).bind fun bt214 => ((kernel_Can.f a0_0 a0_1 a0_2 l0_3 l1 t192).bind fun bt216 => ((kernel_Can.f a0_0 a0_1 a0_2 l0_3 y213 t192).bind fun bt220 => (if bt214.2 = 0 then (if bt214.1 < t185 then (saronlaw06_KernelLosing.j1 kj4 l1 t185 t191 t192 bt216.1 bt216.2 true a0_0 a0_1 a0_2 l0_3) else (if ((bt216.2 == 0) != (decide (t185 > 0))) = true then (saronlaw06_KernelLosing.j1 kj4 l1 t185 t191 t192 bt216.1 bt216.2 true a0_0 a0_1 a0_2 l0_3) else (if ((bt220.2 == 0) != (decide (bt214.1 > 0))) = true then (saronlaw06_KernelLosing.j1 kj4 l1 t185 t191 t192 bt216.1 bt216.2 true a0_0 a0_1 a0_2 l0_3) else (if bt216.2 = 0 then ((saronlaw06_all.f kj4 bt216.1 bt220.1).bind fun t224 => (saronlaw06_KernelLosing.j1 kj4 l1 t185 t191 t192 bt216.1 bt216.2 (!t224) a0_0 a0_1 a0_2 l0_3)) else (saronlaw06_KernelLosing.j1 kj4 l1 t185 t191 t192 bt216.1 bt216.2 false a0_0 a0_1 a0_2 l0_3))))) else (saronlaw06_KernelLosing.j1 kj4 l1 t185 t191 t192 bt216.1 bt216.2 true a0_0 a0_1 a0_2 l0_3)))))) else (none))) else (none)) else (none))))) else (none)) else (none)) else (none)))) else (none))) = some r := H
      have A30 := zh A300
      clear A300
      obtain ⟨y193, hy193⟩ : ∃ y_ : List (S60), y_ = (([] : List (S60))) := ⟨_, rfl⟩
      replace H : (if y193.length + l1.length < 4398046511104 then ((some (y193 ++ l1 : List (S60))).bind fun y196 => ((some (([] : List Int) : List Int)).bind fun y199 => (if 0 ≤ t191 then (if t191 < (l1.length : Int) then (if y199.length + ((rd_T60 l1 t191).f1).length < 17592186044416 then ((some (y199 ++ ((rd_T60 l1 t191).f1) : List Int)).bind fun y203 => (if (y203.length : Int) = 0 then (some false) else ((saronref00_Turn.f a2_1 (y203.length : Int)).bind fun t206 => (if 0 ≤ t206 then (if t206 < (y203.length : Int) then ((saronlaw06_of.f ((rd_T60 l1 t191).f0) (y203.set (t206 : Int).toNat (-2))).bind fun bt209 => (if t191 < (y196.length : Int) then ((some (y196.set (t191 : Int).toNat (⟨bt209.1, bt209.2⟩ : S60) : List (S60))).bind fun y213 => ((kernel_Many.f a0_0 a0_1 a0_2 l0_3 y213).bind fun bt214 => ((kernel_Can.f a0_0 a0_1 a0_2 l0_3 l1 t192).bind fun bt216 => ((kernel_Can.f a0_0 a0_1 a0_2 l0_3 y213 t192).bind fun bt220 => (if bt214.2 = 0 then (if bt214.1 < t185 then (saronlaw06_KernelLosing.j1 kj4 l1 t185 t191 t192 bt216.1 bt216.2 true a0_0 a0_1 a0_2 l0_3) else (if ((bt216.2 == 0) != (decide (t185 > 0))) = true then (saronlaw06_KernelLosing.j1 kj4 l1 t185 t191 t192 bt216.1 bt216.2 true a0_0 a0_1 a0_2 l0_3) else (if ((bt220.2 == 0) != (decide (bt214.1 > 0))) = true then (saronlaw06_KernelLosing.j1 kj4 l1 t185 t191 t192 bt216.1 bt216.2 true a0_0 a0_1 a0_2 l0_3) else (if bt216.2 = 0 then ((saronlaw06_all.f kj4 bt216.1 bt220.1).bind fun t224 => (saronlaw06_KernelLosing.j1 kj4 l1 t185 t191 t192 bt216.1 bt216.2 (!t224) a0_0 a0_1 a0_2 l0_3)) else (saronlaw06_KernelLosing.j1 kj4 l1 t185 t191 t192 bt216.1 bt216.2 false a0_0 a0_1 a0_2 l0_3))))) else (saronlaw06_KernelLosing.j1 kj4 l1 t185 t191 t192 bt216.1 bt216.2 true a0_0 a0_1 a0_2 l0_3)))))) else (none))) else (none)) else (none))))) else (none)) else (none)) else (none)))) else (none)) = some r := by first | (rw [hy193]; with_reducible exact H) | (have H2_ := (Option.bind_some _ _).symm.trans H; rw [hy193]; with_reducible exact H2_) | (have H2_ := (Option.bind_some _ _).symm.trans H; with_reducible exact H2_) | with_reducible exact H | (rw [hy193]; exact H) | exact H
      have Ny193 := zh hy193
      clear hy193
      by_cases c31 : y193.length + l1.length < 4398046511104
      ·rw [if_pos c31] at H
       have LMc31 := zh c31
       clear c31
       obtain ⟨y196, hy196⟩ : ∃ y_ : List (S60), y_ = (y193 ++ l1) := ⟨_, rfl⟩
       replace H : ((some (([] : List Int) : List Int)).bind fun y199 => (if 0 ≤ t191 then (if t191 < (l1.length : Int) then (if y199.length + ((rd_T60 l1 t191).f1).length < 17592186044416 then ((some (y199 ++ ((rd_T60 l1 t191).f1) : List Int)).bind fun y203 => (if (y203.length : Int) = 0 then (some false) else ((saronref00_Turn.f a2_1 (y203.length : Int)).bind fun t206 => (if 0 ≤ t206 then (if t206 < (y203.length : Int) then ((saronlaw06_of.f ((rd_T60 l1 t191).f0) (y203.set (t206 : Int).toNat (-2))).bind fun bt209 => (if t191 < (y196.length : Int) then ((some (y196.set (t191 : Int).toNat (⟨bt209.1, bt209.2⟩ : S60) : List (S60))).bind fun y213 => ((kernel_Many.f a0_0 a0_1 a0_2 l0_3 y213).bind fun bt214 => ((kernel_Can.f a0_0 a0_1 a0_2 l0_3 l1 t192).bind fun bt216 => ((kernel_Can.f a0_0 a0_1 a0_2 l0_3 y213 t192).bind fun bt220 => (if bt214.2 = 0 then (if bt214.1 < t185 then (saronlaw06_KernelLosing.j1 kj4 l1 t185 t191 t192 bt216.1 bt216.2 true a0_0 a0_1 a0_2 l0_3) else (if ((bt216.2 == 0) != (decide (t185 > 0))) = true then (saronlaw06_KernelLosing.j1 kj4 l1 t185 t191 t192 bt216.1 bt216.2 true a0_0 a0_1 a0_2 l0_3) else (if ((bt220.2 == 0) != (decide (bt214.1 > 0))) = true then (saronlaw06_KernelLosing.j1 kj4 l1 t185 t191 t192 bt216.1 bt216.2 true a0_0 a0_1 a0_2 l0_3) else (if bt216.2 = 0 then ((saronlaw06_all.f kj4 bt216.1 bt220.1).bind fun t224 => (saronlaw06_KernelLosing.j1 kj4 l1 t185 t191 t192 bt216.1 bt216.2 (!t224) a0_0 a0_1 a0_2 l0_3)) else (saronlaw06_KernelLosing.j1 kj4 l1 t185 t191 t192 bt216.1 bt216.2 false a0_0 a0_1 a0_2 l0_3))))) else (saronlaw06_KernelLosing.j1 kj4 l1 t185 t191 t192 bt216.1 bt216.2 true a0_0 a0_1 a0_2 l0_3)))))) else (none))) else (none)) else (none))))) else (none)) else (none)) else (none))) = some r := by first | (rw [hy196]; with_reducible exact H) | (have H2_ := (Option.bind_some _ _).symm.trans H; rw [hy196]; with_reducible exact H2_) | (have H2_ := (Option.bind_some _ _).symm.trans H; with_reducible exact H2_) | with_reducible exact H | (rw [hy196]; exact H) | exact H
       have Ny196 := zh hy196
       clear hy196
       obtain ⟨y199, hy199⟩ : ∃ y_ : List Int, y_ = (([] : List Int)) := ⟨_, rfl⟩
       replace H : (if 0 ≤ t191 then (if t191 < (l1.length : Int) then (if y199.length + ((rd_T60 l1 t191).f1).length < 17592186044416 then ((some (y199 ++ ((rd_T60 l1 t191).f1) : List Int)).bind fun y203 => (if (y203.length : Int) = 0 then (some false) else ((saronref00_Turn.f a2_1 (y203.length : Int)).bind fun t206 => (if 0 ≤ t206 then (if t206 < (y203.length : Int) then ((saronlaw06_of.f ((rd_T60 l1 t191).f0) (y203.set (t206 : Int).toNat (-2))).bind fun bt209 => (if t191 < (y196.length : Int) then ((some (y196.set (t191 : Int).toNat (⟨bt209.1, bt209.2⟩ : S60) : List (S60))).bind fun y213 => ((kernel_Many.f a0_0 a0_1 a0_2 l0_3 y213).bind fun bt214 => ((kernel_Can.f a0_0 a0_1 a0_2 l0_3 l1 t192).bind fun bt216 => ((kernel_Can.f a0_0 a0_1 a0_2 l0_3 y213 t192).bind fun bt220 => (if bt214.2 = 0 then (if bt214.1 < t185 then (saronlaw06_KernelLosing.j1 kj4 l1 t185 t191 t192 bt216.1 bt216.2 true a0_0 a0_1 a0_2 l0_3) else (if ((bt216.2 == 0) != (decide (t185 > 0))) = true then (saronlaw06_KernelLosing.j1 kj4 l1 t185 t191 t192 bt216.1 bt216.2 true a0_0 a0_1 a0_2 l0_3) else (if ((bt220.2 == 0) != (decide (bt214.1 > 0))) = true then (saronlaw06_KernelLosing.j1 kj4 l1 t185 t191 t192 bt216.1 bt216.2 true a0_0 a0_1 a0_2 l0_3) else (if bt216.2 = 0 then ((saronlaw06_all.f kj4 bt216.1 bt220.1).bind fun t224 => (saronlaw06_KernelLosing.j1 kj4 l1 t185 t191 t192 bt216.1 bt216.2 (!t224) a0_0 a0_1 a0_2 l0_3)) else (saronlaw06_KernelLosing.j1 kj4 l1 t185 t191 t192 bt216.1 bt216.2 false a0_0 a0_1 a0_2 l0_3))))) else (saronlaw06_KernelLosing.j1 kj4 l1 t185 t191 t192 bt216.1 bt216.2 true a0_0 a0_1 a0_2 l0_3)))))) else (none))) else (none)) else (none))))) else (none)) else (none)) else (none)) = some r := by first | (rw [hy199]; with_reducible exact H) | (have H2_ := (Option.bind_some _ _).symm.trans H; rw [hy199]; with_reducible exact H2_) | (have H2_ := (Option.bind_some _ _).symm.trans H; with_reducible exact H2_) | with_reducible exact H | (rw [hy199]; exact H) | exact H
       have Ny199 := zh hy199
       clear hy199
       by_cases c32 : 0 ≤ t191
       ·rw [if_pos c32] at H
        have c32b0 : decide (0 ≤ t191) = true := decide_eq_true c32
        clear c32
        by_cases c33 : t191 < (l1.length : Int)
        ·rw [if_pos c33] at H
         have c33b0 : decide (t191 < (l1.length : Int)) = true := decide_eq_true c33
         clear c33
         by_cases c34 : y199.length + ((rd_T60 l1 t191).f1).length < 17592186044416
         ·rw [if_pos c34] at H
          have LMc34 := zh c34
          clear c34
          obtain ⟨y203, hy203⟩ : ∃ y_ : List Int, y_ = (y199 ++ ((rd_T60 l1 t191).f1)) := ⟨_, rfl⟩
          replace H : (if (y203.length : Int) = 0 then (some false) else ((saronref00_Turn.f a2_1 (y203.length : Int)).bind fun t206 => (if 0 ≤ t206 then (if t206 < (y203.length : Int) then ((saronlaw06_of.f ((rd_T60 l1 t191).f0) (y203.set (t206 : Int).toNat (-2))).bind fun bt209 => (if t191 < (y196.length : Int) then ((some (y196.set (t191 : Int).toNat (⟨bt209.1, bt209.2⟩ : S60) : List (S60))).bind fun y213 => ((kernel_Many.f a0_0 a0_1 a0_2 l0_3 y213).bind fun bt214 => ((kernel_Can.f a0_0 a0_1 a0_2 l0_3 l1 t192).bind fun bt216 => ((kernel_Can.f a0_0 a0_1 a0_2 l0_3 y213 t192).bind fun bt220 => (if bt214.2 = 0 then (if bt214.1 < t185 then (saronlaw06_KernelLosing.j1 kj4 l1 t185 t191 t192 bt216.1 bt216.2 true a0_0 a0_1 a0_2 l0_3) else (if ((bt216.2 == 0) != (decide (t185 > 0))) = true then (saronlaw06_KernelLosing.j1 kj4 l1 t185 t191 t192 bt216.1 bt216.2 true a0_0 a0_1 a0_2 l0_3) else (if ((bt220.2 == 0) != (decide (bt214.1 > 0))) = true then (saronlaw06_KernelLosing.j1 kj4 l1 t185 t191 t192 bt216.1 bt216.2 true a0_0 a0_1 a0_2 l0_3) else (if bt216.2 = 0 then ((saronlaw06_all.f kj4 bt216.1 bt220.1).bind fun t224 => (saronlaw06_KernelLosing.j1 kj4 l1 t185 t191 t192 bt216.1 bt216.2 (!t224) a0_0 a0_1 a0_2 l0_3)) else (saronlaw06_KernelLosing.j1 kj4 l1 t185 t191 t192 bt216.1 bt216.2 false a0_0 a0_1 a0_2 l0_3))))) else (saronlaw06_KernelLosing.j1 kj4 l1 t185 t191 t192 bt216.1 bt216.2 true a0_0 a0_1 a0_2 l0_3)))))) else (none))) else (none)) else (none)))) = some r := by first | (rw [hy203]; with_reducible exact H) | (have H2_ := (Option.bind_some _ _).symm.trans H; rw [hy203]; with_reducible exact H2_) | (have H2_ := (Option.bind_some _ _).symm.trans H; with_reducible exact H2_) | with_reducible exact H | (rw [hy203]; exact H) | exact H
          have Ny203 := zh hy203
          clear hy203
          by_cases c35 : (y203.length : Int) = 0
          ·rw [if_pos c35] at H
           have c35b0 : ((y203.length : Int) == 0) = true := beq_iff_eq.mpr c35
           have c35b1 : ((y203.length : Int) != 0) = false := bne_eq_false_iff_eq.mpr c35
           clear c35
           exact absurd ((Option.some.inj H).trans HRT.out) (by decide)
          ·rw [if_neg c35] at H
           have c35b0 : ((y203.length : Int) == 0) = false := beq_eq_false_iff_ne.mpr c35
           have c35b1 : ((y203.length : Int) != 0) = true := bne_iff_ne.mpr c35
           have c35b2 : ¬ (y203 = []) := fun h_ => c35 (by rw [h_]; rfl)
           replace H := Option.bind_eq_some_iff.mp H
           obtain ⟨t206, A440, H⟩ := H
           replace H : (if 0 ≤ t206 then (if t206 < (y203.length : Int) then ((saronlaw06_of.f ((rd_T60 l1 t191).f0) (y203.set (t206 : Int).toNat (-2))).bind fun bt209 => (if t191 < (y196.length : Int) then ((some (y196.set (t191 : Int).toNat (⟨bt209.1, bt209.2⟩ : S60) : List (S60))).bind fun y213 => ((kernel_Many.f a0_0 a0_1 a0_2 l0_3 y213).bind fun bt214 => ((kernel_Can.f a0_0 a0_1 a0_2 l0_3 l1 t192).bind fun bt216 => ((kernel_Can.f a0_0 a0_1 a0_2 l0_3 y213 t192).bind fun bt220 => (if bt214.2 = 0 then (if bt214.1 < t185 then (saronlaw06_KernelLosing.j1 kj4 l1 t185 t191 t192 bt216.1 bt216.2 true a0_0 a0_1 a0_2 l0_3) else (if ((bt216.2 == 0) != (decide (t185 > 0))) = true then (saronlaw06_KernelLosing.j1 kj4 l1 t185 t191 t192 bt216.1 bt216.2 true a0_0 a0_1 a0_2 l0_3) else (if ((bt220.2 == 0) != (decide (bt214.1 > 0))) = true then (saronlaw06_KernelLosing.j1 kj4 l1 t185 t191 t192 bt216.1 bt216.2 true a0_0 a0_1 a0_2 l0_3) else (if bt216.2 = 0 then ((saronlaw06_all.f kj4 bt216.1 bt220.1).bind fun t224 => (saronlaw06_KernelLosing.j1 kj4 l1 t185 t191 t192 bt216.1 bt216.2 (!t224) a0_0 a0_1 a0_2 l0_3)) else (saronlaw06_KernelLosing.j1 kj4 l1 t185 t191 t192 bt216.1 bt216.2 false a0_0 a0_1 a0_2 l0_3))))) else (saronlaw06_KernelLosing.j1 kj4 l1 t185 t191 t192 bt216.1 bt216.2 true a0_0 a0_1 a0_2 l0_3)))))) else (none))) else (none)) else (none)) = some r := H
           have A44 := zh A440
           clear A440
           by_cases c45 : 0 ≤ t206
           ·rw [if_pos c45] at H
            have c45b0 : decide (0 ≤ t206) = true := decide_eq_true c45
            clear c45
            by_cases c46 : t206 < (y203.length : Int)
            ·rw [if_pos c46] at H
             have c46b0 : decide (t206 < (y203.length : Int)) = true := decide_eq_true c46
             clear c46
             obtain ⟨y207, hy207⟩ : ∃ y_ : List Int, y_ = (y203.set (t206 : Int).toNat (-2)) := ⟨_, rfl⟩
             replace H : ((saronlaw06_of.f ((rd_T60 l1 t191).f0) y207).bind fun bt209 => (if t191 < (y196.length : Int) then ((some (y196.set (t191 : Int).toNat (⟨bt209.1, bt209.2⟩ : S60) : List (S60))).bind fun y213 => ((kernel_Many.f a0_0 a0_1 a0_2 l0_3 y213).bind fun bt214 => ((kernel_Can.f a0_0 a0_1 a0_2 l0_3 l1 t192).bind fun bt216 => ((kernel_Can.f a0_0 a0_1 a0_2 l0_3 y213 t192).bind fun bt220 => (if bt214.2 = 0 then (if bt214.1 < t185 then (saronlaw06_KernelLosing.j1 kj4 l1 t185 t191 t192 bt216.1 bt216.2 true a0_0 a0_1 a0_2 l0_3) else (if ((bt216.2 == 0) != (decide (t185 > 0))) = true then (saronlaw06_KernelLosing.j1 kj4 l1 t185 t191 t192 bt216.1 bt216.2 true a0_0 a0_1 a0_2 l0_3) else (if ((bt220.2 == 0) != (decide (bt214.1 > 0))) = true then (saronlaw06_KernelLosing.j1 kj4 l1 t185 t191 t192 bt216.1 bt216.2 true a0_0 a0_1 a0_2 l0_3) else (if bt216.2 = 0 then ((saronlaw06_all.f kj4 bt216.1 bt220.1).bind fun t224 => (saronlaw06_KernelLosing.j1 kj4 l1 t185 t191 t192 bt216.1 bt216.2 (!t224) a0_0 a0_1 a0_2 l0_3)) else (saronlaw06_KernelLosing.j1 kj4 l1 t185 t191 t192 bt216.1 bt216.2 false a0_0 a0_1 a0_2 l0_3))))) else (saronlaw06_KernelLosing.j1 kj4 l1 t185 t191 t192 bt216.1 bt216.2 true a0_0 a0_1 a0_2 l0_3)))))) else (none))) = some r := by first | (rw [hy207]; with_reducible exact H) | (have H2_ := (Option.bind_some _ _).symm.trans H; rw [hy207]; with_reducible exact H2_) | (have H2_ := (Option.bind_some _ _).symm.trans H; with_reducible exact H2_) | with_reducible exact H | (rw [hy207]; exact H) | exact H
             have Ny207 := zh hy207
             clear hy207
             replace H := Option.bind_eq_some_iff.mp H
             obtain ⟨⟨t209, t210⟩, A480, H⟩ := H
             replace H : (if t191 < (y196.length : Int) then ((some (y196.set (t191 : Int).toNat (⟨t209, t210⟩ : S60) : List (S60))).bind fun y213 => ((kernel_Many.f a0_0 a0_1 a0_2 l0_3 y213).bind fun bt214 => ((kernel_Can.f a0_0 a0_1 a0_2 l0_3 l1 t192).bind fun bt216 => ((kernel_Can.f a0_0 a0_1 a0_2 l0_3 y213 t192).bind fun bt220 => (if bt214.2 = 0 then (if bt214.1 < t185 then (saronlaw06_KernelLosing.j1 kj4 l1 t185 t191 t192 bt216.1 bt216.2 true a0_0 a0_1 a0_2 l0_3) else (if ((bt216.2 == 0) != (decide (t185 > 0))) = true then (saronlaw06_KernelLosing.j1 kj4 l1 t185 t191 t192 bt216.1 bt216.2 true a0_0 a0_1 a0_2 l0_3) else (if ((bt220.2 == 0) != (decide (bt214.1 > 0))) = true then (saronlaw06_KernelLosing.j1 kj4 l1 t185 t191 t192 bt216.1 bt216.2 true a0_0 a0_1 a0_2 l0_3) else (if bt216.2 = 0 then ((saronlaw06_all.f kj4 bt216.1 bt220.1).bind fun t224 => (saronlaw06_KernelLosing.j1 kj4 l1 t185 t191 t192 bt216.1 bt216.2 (!t224) a0_0 a0_1 a0_2 l0_3)) else (saronlaw06_KernelLosing.j1 kj4 l1 t185 t191 t192 bt216.1 bt216.2 false a0_0 a0_1 a0_2 l0_3))))) else (saronlaw06_KernelLosing.j1 kj4 l1 t185 t191 t192 bt216.1 bt216.2 true a0_0 a0_1 a0_2 l0_3)))))) else (none)) = some r := H
             have A48 := zh A480
             clear A480
             by_cases c49 : t191 < (y196.length : Int)
             ·rw [if_pos c49] at H
              have c49b0 : decide (t191 < (y196.length : Int)) = true := decide_eq_true c49
              clear c49
              obtain ⟨y213, hy213⟩ : ∃ y_ : List (S60), y_ = (y196.set (t191 : Int).toNat (⟨t209, t210⟩ : S60)) := ⟨_, rfl⟩
              replace H : ((kernel_Many.f a0_0 a0_1 a0_2 l0_3 y213).bind fun bt214 => ((kernel_Can.f a0_0 a0_1 a0_2 l0_3 l1 t192).bind fun bt216 => ((kernel_Can.f a0_0 a0_1 a0_2 l0_3 y213 t192).bind fun bt220 => (if bt214.2 = 0 then (if bt214.1 < t185 then (saronlaw06_KernelLosing.j1 kj4 l1 t185 t191 t192 bt216.1 bt216.2 true a0_0 a0_1 a0_2 l0_3) else (if ((bt216.2 == 0) != (decide (t185 > 0))) = true then (saronlaw06_KernelLosing.j1 kj4 l1 t185 t191 t192 bt216.1 bt216.2 true a0_0 a0_1 a0_2 l0_3) else (if ((bt220.2 == 0) != (decide (bt214.1 > 0))) = true then (saronlaw06_KernelLosing.j1 kj4 l1 t185 t191 t192 bt216.1 bt216.2 true a0_0 a0_1 a0_2 l0_3) else (if bt216.2 = 0 then ((saronlaw06_all.f kj4 bt216.1 bt220.1).bind fun t224 => (saronlaw06_KernelLosing.j1 kj4 l1 t185 t191 t192 bt216.1 bt216.2 (!t224) a0_0 a0_1 a0_2 l0_3)) else (saronlaw06_KernelLosing.j1 kj4 l1 t185 t191 t192 bt216.1 bt216.2 false a0_0 a0_1 a0_2 l0_3))))) else (saronlaw06_KernelLosing.j1 kj4 l1 t185 t191 t192 bt216.1 bt216.2 true a0_0 a0_1 a0_2 l0_3))))) = some r := by first | (rw [hy213]; with_reducible exact H) | (have H2_ := (Option.bind_some _ _).symm.trans H; rw [hy213]; with_reducible exact H2_) | (have H2_ := (Option.bind_some _ _).symm.trans H; with_reducible exact H2_) | with_reducible exact H | (rw [hy213]; exact H) | exact H
              have Ny213 := zh hy213
              clear hy213
              replace H := Option.bind_eq_some_iff.mp H
              obtain ⟨⟨t214, t215⟩, A510, H⟩ := H
              replace H : ((kernel_Can.f a0_0 a0_1 a0_2 l0_3 l1 t192).bind fun bt216 => ((kernel_Can.f a0_0 a0_1 a0_2 l0_3 y213 t192).bind fun bt220 => (if t215 = 0 then (if t214 < t185 then (saronlaw06_KernelLosing.j1 kj4 l1 t185 t191 t192 bt216.1 bt216.2 true a0_0 a0_1 a0_2 l0_3) else (if ((bt216.2 == 0) != (decide (t185 > 0))) = true then (saronlaw06_KernelLosing.j1 kj4 l1 t185 t191 t192 bt216.1 bt216.2 true a0_0 a0_1 a0_2 l0_3) else (if ((bt220.2 == 0) != (decide (t214 > 0))) = true then (saronlaw06_KernelLosing.j1 kj4 l1 t185 t191 t192 bt216.1 bt216.2 true a0_0 a0_1 a0_2 l0_3) else (if bt216.2 = 0 then ((saronlaw06_all.f kj4 bt216.1 bt220.1).bind fun t224 => (saronlaw06_KernelLosing.j1 kj4 l1 t185 t191 t192 bt216.1 bt216.2 (!t224) a0_0 a0_1 a0_2 l0_3)) else (saronlaw06_KernelLosing.j1 kj4 l1 t185 t191 t192 bt216.1 bt216.2 false a0_0 a0_1 a0_2 l0_3))))) else (saronlaw06_KernelLosing.j1 kj4 l1 t185 t191 t192 bt216.1 bt216.2 true a0_0 a0_1 a0_2 l0_3)))) = some r := H
              have A51 := zh A510
              clear A510
              replace H := Option.bind_eq_some_iff.mp H
              obtain ⟨⟨t216, t219⟩, A520, H⟩ := H
              replace H : ((kernel_Can.f a0_0 a0_1 a0_2 l0_3 y213 t192).bind fun bt220 => (if t215 = 0 then (if t214 < t185 then (saronlaw06_KernelLosing.j1 kj4 l1 t185 t191 t192 t216 t219 true a0_0 a0_1 a0_2 l0_3) else (if ((t219 == 0) != (decide (t185 > 0))) = true then (saronlaw06_KernelLosing.j1 kj4 l1 t185 t191 t192 t216 t219 true a0_0 a0_1 a0_2 l0_3) else (if ((bt220.2 == 0) != (decide (t214 > 0))) = true then (saronlaw06_KernelLosing.j1 kj4 l1 t185 t191 t192 t216 t219 true a0_0 a0_1 a0_2 l0_3) else (if t219 = 0 then ((saronlaw06_all.f kj4 t216 bt220.1).bind fun t224 => (saronlaw06_KernelLosing.j1 kj4 l1 t185 t191 t192 t216 t219 (!t224) a0_0 a0_1 a0_2 l0_3)) else (saronlaw06_KernelLosing.j1 kj4 l1 t185 t191 t192 t216 t219 false a0_0 a0_1 a0_2 l0_3))))) else (saronlaw06_KernelLosing.j1 kj4 l1 t185 t191 t192 t216 t219 true a0_0 a0_1 a0_2 l0_3))) = some r := H
              have A52 := zh A520
              clear A520
              replace H := Option.bind_eq_some_iff.mp H
              obtain ⟨⟨t220, t223⟩, A530, H⟩ := H
              replace H : (if t215 = 0 then (if t214 < t185 then (saronlaw06_KernelLosing.j1 kj4 l1 t185 t191 t192 t216 t219 true a0_0 a0_1 a0_2 l0_3) else (if ((t219 == 0) != (decide (t185 > 0))) = true then (saronlaw06_KernelLosing.j1 kj4 l1 t185 t191 t192 t216 t219 true a0_0 a0_1 a0_2 l0_3) else (if ((t223 == 0) != (decide (t214 > 0))) = true then (saronlaw06_KernelLosing.j1 kj4 l1 t185 t191 t192 t216 t219 true a0_0 a0_1 a0_2 l0_3) else (if t219 = 0 then ((saronlaw06_all.f kj4 t216 t220).bind fun t224 => (saronlaw06_KernelLosing.j1 kj4 l1 t185 t191 t192 t216 t219 (!t224) a0_0 a0_1 a0_2 l0_3)) else (saronlaw06_KernelLosing.j1 kj4 l1 t185 t191 t192 t216 t219 false a0_0 a0_1 a0_2 l0_3))))) else (saronlaw06_KernelLosing.j1 kj4 l1 t185 t191 t192 t216 t219 true a0_0 a0_1 a0_2 l0_3)) = some r := H
              have A53 := zh A530
              clear A530
              have HC54 := zh H
              clear H
              try go_wp2
              replace HO_1 := zh (Kd.V_drew HO_1.out)
              replace BK183 := zh (blk_drew BK183.out)
              replace BK184 := zh (blk_drew BK184.out)
              replace HB := zh (below_drew1 HB.out)
              refine start_ (n := 12) (S := fun w' => w'.cell? ⟨gb184, 0, none⟩ = some (.int .i64 a2_0) ∧ w'.cell? ⟨gb184, 1, none⟩ = some (.int .i64 a2_1) ∧ w'.cell? ⟨gb184, 2, none⟩ = some (.int .i64 a2_2) ∧ w'.cell? ⟨gb183, 0, none⟩ = some (.int .i64 a0_0) ∧ w'.cell? ⟨gb183, 1, none⟩ = some (.int .i64 a0_1) ∧ w'.cell? ⟨gb183, 2, none⟩ = some (.int .i64 a0_2) ∧ w'.cell? ⟨gb183, 3, none⟩ = some (.slice A0_3 l0_3.length c0_3)) (ds := []) (Array.replicate 12 false) zk rfl rfl ⟨vb BK184 0, vb BK184 1, vb BK184 2, vb BK183 0, vb BK183 1, vb BK183 2, vb BK183 3⟩ (fun hHeld => ?_); refine with_tabW saronlaw06_KernelLosing.tab6 saronlaw06_KernelLosing.bits6 (fun HT_ HW_ => ?_)
              generalize wc.drew = w55 at HO_1 BK183 BK184 HB hHeld ⊢
              refine zu 0 ?_
              refine zu 2 ?_
              refine zu 3 ?_
              refine zu 5 ?_
              refine zu 7 ?_
              refine zt 1 ?_
              refine zt 6 ?_
              refine zt 8 ?_
              refine zo 4 (fun K hK => ?_)
              refine goes_ Tryd.func42 zk rfl #[.int .i64 a2_0, .int .i64 (l1.length : Int)] (by rfl) rfl rfl zm ?_
              with_reducible refine (saronref00_Turn.calls a2_0 (l1.length : Int) t191 _ A29.out).mono ?_
              rintro e w' ⟨rfl, ⟨nd, rfl⟩⟩
              refine ⟨_, rfl, ?_⟩
              refine hK.out _ _ ⟨vb BK184 0, vb BK184 1, vb BK184 2, vb BK183 0, vb BK183 1, vb BK183 2, vb BK183 3⟩ (fun hHeld => ?_)
              clear hK K
              refine zr 66 _ ?_
              refine zo 9 (fun K hK => ?_)
              refine goes_ Tryd.func42 zk rfl #[.int .i64 a2_2, .int .i64 a0_2] (by rfl) rfl rfl zm ?_
              with_reducible refine (saronref00_Turn.calls a2_2 a0_2 t192 _ A30.out).mono ?_
              rintro e w' ⟨rfl, ⟨nd, rfl⟩⟩
              refine ⟨_, rfl, ?_⟩
              refine hK.out _ _ ⟨vb BK184 0, vb BK184 1, vb BK184 2, vb BK183 0, vb BK183 1, vb BK183 2, vb BK183 3⟩ (fun hHeld => ?_)
              clear hK K
              refine zr 71 _ ?_
              refine zu 10 ?_
              refine zu 11 ?_
              refine zd ?_
              go_upto_region 16 with (first | ((with_reducible refine gate_dst (N := 72) rfl ?_); (try (refine gate_guard (by rfl) ?_; dsimp only)); refine Kd.N_lit k60 _ 60 ?hg (N' := 72) ?hd (xs := ([] : List (S60))) (inner := []) (ok := (fun k_ => (P1_ k_ ∨ w.heap.size ≤ k_) ∧ k_ ≠ gb183 ∧ k_ ≠ gb184)) (okp := (fun k_ => (P1_ k_ ∨ w.heap.size ≤ k_) ∧ k_ ≠ gb183 ∧ k_ ≠ gb184)) ?hr ?hp (fun _ hk => hk) ((show ∀ k_, w55.heap.size ≤ k_ → (fun k_ => (P1_ k_ ∨ w.heap.size ≤ k_) ∧ k_ ≠ gb183 ∧ k_ ≠ gb184) k_ from fun k_ hk => ⟨(.inr (Nat.le_trans (below_size zb) hk)), Kd.freshB (g := gb183) (o := .cells #[.int .i64 a0_0, .int .i64 a0_1, .int .i64 a0_2, .slice A0_3 l0_3.length c0_3] 24 (0, 0)) (zc BK183) k_ hk, Kd.freshB (g := gb184) (o := .cells #[.int .i64 a2_0, .int .i64 a2_1, .int .i64 a2_2] 67 (0, 0)) (zc BK184) k_ hk⟩) _ (Nat.le_refl _)) (Below.refl _ _) (Nat.le_refl _) (by simp) ?_; (case hd => rfl); (case hg => rfl); (case hr => first | (go_simp; done) | (go_simp; rfl)); (case hp => exact (Reps.none _ _)); intro v194 w56 ho57 hb hg_ hnew_; clear hg_ hnew_; (first | rw [← Ny193.out] at ho57 | (simp only [Int.reduceToNat] at ho57; rw [← Ny193.out] at ho57)); have n0_ := zh (Kd.V_elder' (zV HO_1) (Kd.N_base ho57) hb); have n1_ := zh (Kd.N_lower ho57 (below_size zb)); have n2_ := zh (blk_below (g := gb183) (o := .cells #[.int .i64 a0_0, .int .i64 a0_1, .int .i64 a0_2, .slice A0_3 l0_3.length c0_3] 24 (0, 0)) (zc BK183) hb); have n3_ := zh (blk_below (g := gb184) (o := .cells #[.int .i64 a2_0, .int .i64 a2_1, .int .i64 a2_2] 67 (0, 0)) (zc BK184) hb); have n4_ := zh (below_step zb hb); clear HO_1; clear BK183; clear BK184; clear HB; have HO_1 := n0_; have HO195 := n1_; have BK183 := n2_; have BK184 := n3_; have HB := n4_; clear n0_ n1_ n2_ n3_ n4_; clear hb ho57) | ((with_reducible refine gate_builtin (b := .append) (xs := #[.tmp 72, .tmp 73]) rfl ?_); (try (refine gate_guard (by rfl) ?_; dsimp only)); at_builtin; refine Kd.N_append_rows k60 (w0 := w) w.heap.size rfl (.tmp 72) (.tmp 73) 33 60 (.agg #[(.int .i64 0), (.slice none 0 0)]) 32 rfl Tryd.underlying33 info60 rfl (by decide) (by omega) v194 y193 l1 _ _ _ (fun k_ => (P1_ k_ ∨ w.heap.size ≤ k_) ∧ k_ ≠ gb183 ∧ k_ ≠ gb184) (fun k_ => ((fun k_ => (P1_ k_ ∨ w.heap.size ≤ k_) ∧ k_ ≠ gb183 ∧ k_ ≠ gb184)) k_ ∧ some k_ ≠ (v194 : Value).ownBlock) rfl rfl ?aO ?aR (fun _ hk => hk) ?aF ?aB ?aS ?aL ?_; (case aR => exact (by skip; exact Kd.V_F (Kd.V_mono (ok' := (fun k_ => ((fun k_ => (P1_ k_ ∨ w.heap.size ≤ k_) ∧ k_ ≠ gb183 ∧ k_ ≠ gb184)) k_ ∧ some k_ ≠ (v194 : Value).ownBlock)) (HO_1.out) (fun k_ hk => ⟨⟨hk.1.1, ⟨hk.1.2.1, hk.1.2.2⟩⟩, hk.2⟩)))); (case aB => exact zb); (case aF => exact (fun k_ hk => ⟨(.inr (Nat.le_trans (below_size zb) hk)), Kd.freshB (g := gb183) (o := .cells #[.int .i64 a0_0, .int .i64 a0_1, .int .i64 a0_2, .slice A0_3 l0_3.length c0_3] 24 (0, 0)) (zc BK183) k_ hk, Kd.freshB (g := gb184) (o := .cells #[.int .i64 a2_0, .int .i64 a2_1, .int .i64 a2_2] 67 (0, 0)) (zc BK184) k_ hk⟩)); (case aO => exact (zN HO195)); (case aS => exact (below_size zb)); (case aL => have := LMc31.out; omega); intro v197 w58 ho hb hg hat; rw [← Ny196.out] at ho; have n0_ := zh (Kd.V_afterv (ok := (fun k_ => (P1_ k_ ∨ w.heap.size ≤ k_) ∧ k_ ≠ gb183 ∧ k_ ≠ gb184)) (zV HO_1) hg hat); have n1_ := zh (blk_grown (g := gb183) (o := .cells #[.int .i64 a0_0, .int .i64 a0_1, .int .i64 a0_2, .slice A0_3 l0_3.length c0_3] 24 (0, 0)) (zc BK183) hg (Kd.N_ne HO195.out BK183.out (by decide))); have n2_ := zh (blk_grown (g := gb184) (o := .cells #[.int .i64 a2_0, .int .i64 a2_1, .int .i64 a2_2] 67 (0, 0)) (zc BK184) hg (Kd.N_ne HO195.out BK184.out (by decide))); have n3_ := zh (hb); have n4_ := zh (ho); clear HO_1; clear BK183; clear BK184; clear HB; clear HO195; have HO_1 := n0_; have BK183 := n1_; have BK184 := n2_; have HB := n3_; have HO198 := n4_; clear n0_ n1_ n2_ n3_ n4_; clear ho hb hg hat) | ((with_reducible refine gate_dst (N := 75) rfl ?_); (try (refine gate_guard (by rfl) ?_; dsimp only)); refine Kd.R_lit (Kd.int .i64) _ 3 ?hg (N := 75) ?hd (xs := ([] : List Int)) (inner := []) (ok := fun _ => True) (okp := fun _ => True) ?hr ?hp (fun _ hk => hk) trivial (Below.refl _ _) (Nat.le_refl _) (by simp) ?_; (case hd => rfl); (case hg => rfl); (case hr => first | (go_simp; done) | (go_simp; rfl)); (case hp => exact (Reps.none _ _)); intro v200 w59 ho60 hb hg_ hnew_; clear hg_ hnew_; (first | rw [← Ny199.out] at ho60 | (simp only [Int.reduceToNat] at ho60; rw [← Ny199.out] at ho60)); have n0_ := zh (Kd.V_elder' (zV HO_1) (Kd.R_base ho60) hb); have n1_ := zh (Kd.N_elder' (zN HO198) (Kd.R_base ho60) hb); have n2_ := zh (Kd.R_lower (Kd.R_newM (M := fun k_ => (w.heap.size ≤ k_)) ho60 (below_size zb) (fun k_ h_ => h_)) (below_size zb)); have n3_ := zh (blk_below (g := gb183) (o := .cells #[.int .i64 a0_0, .int .i64 a0_1, .int .i64 a0_2, .slice A0_3 l0_3.length c0_3] 24 (0, 0)) (zc BK183) hb); have n4_ := zh (blk_below (g := gb184) (o := .cells #[.int .i64 a2_0, .int .i64 a2_1, .int .i64 a2_2] 67 (0, 0)) (zc BK184) hb); have n5_ := zh (below_step zb hb); clear HO_1; clear HO198; clear BK183; clear BK184; clear HB; have HO_1 := n0_; have HO198 := n1_; have HO201 := n2_; have BK183 := n3_; have BK184 := n4_; have HB := n5_; clear n0_ n1_ n2_ n3_ n4_ n5_; clear hb ho60; have p202 : 0 ≤ (t191 : Int) := of_decide_eq_true zs; have q202 : t191 < (l1.length : Int) := of_decide_eq_true zs; obtain ⟨ad202, A202_1, c202_1, e202, hx202_0, hx202_1, hl202_1, hi202_1⟩ := at_T60 (Kd.V_reads' HO_1.out).2.2 t191 p202 q202; cases e202; obtain ⟨ce202, hce202, hMe202, hcc202⟩ := Kd.V_get HO_1.out z60 t191 p202 (by first | exact q202 | exact of_decide_eq_true zs | (have e_ := (Kd.V_reads' HO_1.out).1; omega)); obtain ⟨ua202_1, uc202_1, rfl, ul202_1, ge202_1⟩ := k60_openF hMe202; have hv202_1 := hcc202 1 _ rfl; rw [add_field _ _ 1 (by omega)] at hv202_1; replace hv202_1 := Option.some.inj (hv202_1.symm.trans hx202_1); injection hv202_1 with hva_ hvn_ hvc_; rw [hva_] at ge202_1; rw [hvc_] at ul202_1; have HL202_1 := zh (show Kd.V (Kd.int .i64) 3 _ w.heap.size _ _ ((rd_T60 l1 t191).f1) from Kd.V_mk ul202_1 ge202_1); clear hva_ hvn_ hvc_ ge202_1 ul202_1; clear hcc202 hce202; have HR202_1 := zh hi202_1; have HC202_1 := zh hl202_1; clear hi202_1 hl202_1; replace p202 := eq_true p202; replace q202 := eq_true q202) | ((with_reducible refine gate_builtin (b := .append) (xs := #[.tmp 75, .tmp 80]) rfl ?_); (try (refine gate_guard (by rfl) ?_; dsimp only)); at_builtin; refine Kd.R_append_rows (Kd.int .i64) (w0 := w) w.heap.size rfl (.tmp 75) (.tmp 80) 25 3 (.int .i64 0) 8 rfl Tryd.underlying25 info3 rfl (by decide) (by omega) v200 y199 ((rd_T60 l1 t191).f1) _ _ _ (fun k_ => (w.heap.size ≤ k_)) (fun _ => False) rfl rfl ?aO ?aR (fun _ _ h => h) (fun _ h => h.elim) ?aF ?aB ?aS ?aL ?_; (case aR => repeat (first | exact (by repeat (first | (with_reducible exact HR202_1.out) | (with_reducible refine Kd.C_alloc ?_ _) | (with_reducible refine Kd.C_drewN ?_ _) | (with_reducible refine Kd.C_drew ?_) | exact HR202_1.out)) | (with_reducible refine Kd.C_alloc ?_ _) | (with_reducible refine Kd.C_drewN ?_ _) | (with_reducible refine Kd.C_drew ?_))); (case aB => exact zb); (case aF => exact (fun k_ hk => (Nat.le_trans (below_size zb) hk))); (case aO => exact (by (with_reducible repeat (first | apply Kd.R_alloc | apply Kd.R_drewN | apply Kd.R_drew)); exact Kd.R_mono HO201.out (fun _ hk => hk.1))); (case aS => exact (below_size zb)); (case aL => have := LMc34.out; omega); intro v204 w61 ho hb hg hat; rw [← Ny203.out] at ho; have n0_ := zh (Kd.V_afterv (ok := (fun k_ => (P1_ k_ ∨ w.heap.size ≤ k_) ∧ some k_ ≠ (v197 : Value).ownBlock ∧ k_ ≠ gb183 ∧ k_ ≠ gb184)) (by (with_reducible repeat (first | apply Kd.V_alloc | apply Kd.V_drewN | apply Kd.V_drew)); exact Kd.V_mono HO_1.out (fun _ hk => ⟨⟨hk.1.1.1, ⟨hk.1.2, ⟨hk.1.1.2.1, hk.1.1.2.2⟩⟩⟩, hk.2⟩)) hg hat); have n1_ := zh (blk_grown (g := gb183) (o := .cells #[.int .i64 a0_0, .int .i64 a0_1, .int .i64 a0_2, .slice A0_3 l0_3.length c0_3] 24 (0, 0)) (zc BK183) hg (Kd.R_ne HO201.out BK183.out (by decide))); have n2_ := zh (blk_grown (g := gb184) (o := .cells #[.int .i64 a2_0, .int .i64 a2_1, .int .i64 a2_2] 67 (0, 0)) (zc BK184) hg (Kd.R_ne HO201.out BK184.out (by decide))); have n3_ := zh (Kd.N_afterv (ok := (fun k_ => (P1_ k_ ∨ w.heap.size ≤ k_) ∧ k_ ≠ gb183 ∧ k_ ≠ gb184)) (zN HO198) hg hat); have n4_ := zh (Kd.V_afterv (ok := (fun k_ => (P1_ k_ ∨ w.heap.size ≤ k_) ∧ some k_ ≠ (v197 : Value).ownBlock ∧ k_ ≠ gb183 ∧ k_ ≠ gb184)) (by (with_reducible repeat (first | apply Kd.V_alloc | apply Kd.V_drewN | apply Kd.V_drew)); exact Kd.V_mono HL202_1.out (fun _ hk => ⟨⟨hk.1.1.1, ⟨hk.1.2, ⟨hk.1.1.2.1, hk.1.1.2.2⟩⟩⟩, hk.2⟩)) hg hat); have n5_ := zh (hb); have n6_ := zh (ho); clear HO_1; clear BK183; clear BK184; clear HO198; clear HL202_1; clear HB; clear HO201; have HO_1 := n0_; have BK183 := n1_; have BK184 := n2_; have HO198 := n3_; have HL202_1 := n4_; have HB := n5_; have HO205 := n6_; clear n0_ n1_ n2_ n3_ n4_ n5_ n6_; clear ho hb hg hat; obtain ⟨Ao62, co62, eo62⟩ := Kd.R_slice HO205.out; subst eo62; have hnb63 := NB184_183.out; have hnc63 := NB183_184.out; have hcz64_0 : w61.cell? ⟨gb184, 0, none⟩ = some (.int .i64 a2_0) := vb BK184 0; have hcz64_1 : w61.cell? ⟨gb184, 1, none⟩ = some (.int .i64 a2_1) := vb BK184 1; have hcz64_2 : w61.cell? ⟨gb184, 2, none⟩ = some (.int .i64 a2_2) := vb BK184 2; have hfz64_0 := blk_frozen BK184.out 0; have hfz64_1 := blk_frozen BK184.out 1; have hfz64_2 := blk_frozen BK184.out 2) | ((with_reducible refine gate_callee (f := 42) rfl ?_); refine goesL_ (some 90) rfl rfl Tryd.func42 zk rfl #[.int .i64 a2_1, .int .i64 (y203.length : Int)] rfl zm ?_; (with_reducible refine (saronref00_Turn.calls a2_1 (y203.length : Int) t206 _ A44.out).mono ?_); rintro e w' ⟨rfl, ⟨nd, rfl⟩⟩; refine ⟨_, rfl, ?_⟩; (try (rw [drewN_self w61]; generalize hq_ : World.drewN w61 _ = w61; have n0_ := zh (keep_V hq_ HL202_1.out); have n1_ := zh (keep_N hq_ HO198.out); have n2_ : Aside0 (Kd.R (Kd.int .i64) 3 w61 w.heap.size (fun k_ => (w.heap.size ≤ k_)) (.slice Ao62 y203.length co62) y203) := ⟨by rw [← hq_]; exact (zR HO205)⟩; have n3_ := zh (keep_V hq_ HO_1.out); have n4_ : Aside0 (w61.heap[gb183]? = some (.cells #[.int .i64 a0_0, .int .i64 a0_1, .int .i64 a0_2, .slice A0_3 l0_3.length c0_3] 24 (0, 0))) := ⟨by rw [← hq_]; exact (zc BK183)⟩; have n5_ : Aside0 (w61.heap[gb184]? = some (.cells #[.int .i64 a2_0, .int .i64 a2_1, .int .i64 a2_2] 67 (0, 0))) := ⟨by rw [← hq_]; exact (zc BK184)⟩; have n6_ : Aside0 (Below w.heap.size w w61) := ⟨by rw [← hq_]; exact zb⟩; clear HL202_1 HO198 HO205 HO_1 BK183 BK184 HB hq_; have HL202_1 := n0_; have HO198 := n1_; have HO205 := n2_; have HO_1 := n3_; have BK183 := n4_; have BK184 := n5_; have HB := n6_; clear n0_ n1_ n2_ n3_ n4_ n5_ n6_)); have p47 : 0 ≤ (t206 : Int) := of_decide_eq_true zs; have q47 : (t206 : Int) < ((y203.length : Int) : Int) := of_decide_eq_true zs; obtain ⟨go47, co47, eo47, gb47, gl47, cl47, HG47⟩ := Kd.R_form HO205.out (by omega); (first | cases eo47 | (injection eo47 with ea_ en_ ec_; (first | subst ea_ | (injection ea_ with ea_; subst ea_)); subst ec_; clear en_)); have GB47 := zh gb47; have GG47 := zh HG47; clear gb47 gl47 HG47; obtain ⟨hx47_0, hf47_0⟩ := Kd.R_celln 0 HO205.out (t206 : Int) p47 q47; replace p47 := eq_true p47; replace q47 := eq_true q47; obtain ⟨hy65_, hz65_⟩ := Kd.R_celln 0 HO205.out (t206 : Int) (of_decide_eq_true zs) (of_decide_eq_true zs); have HP65 := Kd.R_putg HO205.out (t206 : Int) (-2)) | ((with_reducible refine gate_store (t := 3) (p := 91) rfl ?_); refine store_event (t := 3) (p := 91) (v := ?vo_w66) (w1 := (w61.setCell ⟨go47, (t206 : Int).toNat, none⟩ (.int .i64 (-2)))) ?hg ?ho ?hn ?hr ?_; (case ho => rfl); (case hg => rfl); (case hn => rfl); (case hr => first | (go_simp; done) | (go_simp; rfl)); intro w66 hw; have hg : w61.grownBy w66 (some go47) := (by rw [hw]; exact HP65.2); have hp_ : Kd.R (Kd.int .i64) 3 w66 w.heap.size (fun k_ => (w.heap.size ≤ k_)) (.slice (some ⟨go47, 0, none⟩) y203.length co62) y207 := (by rw [hw, Ny207.out]; exact HP65.1); clear HP65; have n0_ := zh (Kd.V_afterv (v := (.slice (some ⟨go47, 0, none⟩) y203.length co62)) (v1 := (.slice (some ⟨go47, 0, none⟩) y203.length co62)) (ok := (fun k_ => (P1_ k_ ∨ w.heap.size ≤ k_) ∧ some k_ ≠ (v197 : Value).ownBlock ∧ k_ ≠ gb183 ∧ k_ ≠ gb184)) (zV HO_1) hg (.inl rfl)); have n1_ := zh (blk_grown (g := gb183) (o := .cells #[.int .i64 a0_0, .int .i64 a0_1, .int .i64 a0_2, .slice A0_3 l0_3.length c0_3] 24 (0, 0)) (zc BK183) hg (Kd.R_ne HO205.out BK183.out (by decide))); have n2_ := zh (blk_grown (g := gb184) (o := .cells #[.int .i64 a2_0, .int .i64 a2_1, .int .i64 a2_2] 67 (0, 0)) (zc BK184) hg (Kd.R_ne HO205.out BK184.out (by decide))); have n3_ := zh (Kd.N_afterv (v := (.slice (some ⟨go47, 0, none⟩) y203.length co62)) (v1 := (.slice (some ⟨go47, 0, none⟩) y203.length co62)) (ok := (fun k_ => (P1_ k_ ∨ w.heap.size ≤ k_) ∧ k_ ≠ gb183 ∧ k_ ≠ gb184)) (zN HO198) hg (.inl rfl)); have n4_ := zh (Kd.V_afterv (v := (.slice (some ⟨go47, 0, none⟩) y203.length co62)) (v1 := (.slice (some ⟨go47, 0, none⟩) y203.length co62)) (ok := (fun k_ => (P1_ k_ ∨ w.heap.size ≤ k_) ∧ some k_ ≠ (v197 : Value).ownBlock ∧ k_ ≠ gb183 ∧ k_ ≠ gb184)) (by (with_reducible repeat (first | apply Kd.V_alloc | apply Kd.V_drewN | apply Kd.V_drew)); exact HL202_1.out) hg (.inl rfl)); have n5_ := zh (hp_); have n6_ := zh ((by rw [hw]; exact below_set (HB.out) GB47.out : Below w.heap.size w w66)); clear HO_1; clear BK183; clear BK184; clear HO198; clear HL202_1; clear HO205; clear HB; have HO_1 := n0_; have BK183 := n1_; have BK184 := n2_; have HO198 := n3_; have HL202_1 := n4_; have HO205 := n5_; have HB := n6_; clear n0_ n1_ n2_ n3_ n4_ n5_ n6_; clear hg hw hp_; have p208 : 0 ≤ (t191 : Int) := of_decide_eq_true zs; have q208 : t191 < (l1.length : Int) := of_decide_eq_true zs; obtain ⟨ad208, A208_1, c208_1, e208, hx208_0, hx208_1, hl208_1, hi208_1⟩ := at_T60 (Kd.V_reads' HO_1.out).2.2 t191 p208 q208; obtain rfl : ad202 = ad208 := (by injection e208); obtain ⟨ce208, hce208, hMe208, hcc208⟩ := Kd.V_get HO_1.out z60 t191 p208 (by first | exact q208 | exact of_decide_eq_true zs | (have e_ := (Kd.V_reads' HO_1.out).1; omega)); obtain ⟨ua208_1, uc208_1, rfl, ul208_1, ge208_1⟩ := k60_openF hMe208; have hv208_1 := hcc208 1 _ rfl; rw [add_field _ _ 1 (by omega)] at hv208_1; replace hv208_1 := Option.some.inj (hv208_1.symm.trans hx208_1); injection hv208_1 with hva_ hvn_ hvc_; rw [hva_] at ge208_1; rw [hvc_] at ul208_1; have HL208_1 := zh (show Kd.V (Kd.int .i64) 3 _ w.heap.size _ _ ((rd_T60 l1 t191).f1) from Kd.V_mk ul208_1 ge208_1); clear hva_ hvn_ hvc_ ge208_1 ul208_1; clear hcc208 hce208; have HR208_1 := zh hi208_1; have HC208_1 := zh hl208_1; clear hi208_1 hl208_1; replace p208 := eq_true p208; replace q208 := eq_true q208) | ((with_reducible refine gate_callee (f := 44) rfl ?_); refine goesL_ (some 100) rfl rfl Tryd.func44 zk rfl #[.int .i64 ((rd_T60 l1 t191).f0), .slice (some ⟨go47, 0, none⟩) y203.length co62] rfl zm ?_; (with_reducible refine (saronlaw06_of.calls ((rd_T60 l1 t191).f0) (fun k_ => some k_ = (.slice (some ⟨go47, 0, none⟩) y203.length co62 : Value).ownBlock) (.slice (some ⟨go47, 0, none⟩) y203.length co62) y207 t209 t210 w _ ?side1 ?side2 A48.out).mono ?_); (case side1 => repeat (first | (with_reducible first | exact HB.out | apply below_alloc | apply pw_below_drewN | apply below_drew1 | refine below_set ?_ GE183.out | refine below_set ?_ GE184.out) | exact HB.out)); (case side2 => exact Kd.R_tight rfl HO205.out); rintro e w67 ⟨v211, rfl, ho0, hb, hkp⟩; refine ⟨_, rfl, ?_⟩; have n0_ := zh (Kd.V_mono (ok' := fun k_ => (P1_ k_ ∨ w.heap.size ≤ k_) ∧ some k_ ≠ (v197 : Value).ownBlock ∧ k_ ≠ gb183 ∧ k_ ≠ gb184 ∧ some k_ ≠ (v211 : Value).ownBlock) (Kd.V_keptB (HO_1.out) hkp (fun k_ hk_ hs_ => (hk_.2) hs_)) (fun k_ hk_ => ⟨hk_.1.1.1, hk_.1.1.2.1, hk_.1.1.2.2.1, hk_.1.1.2.2.2, fun e_ => Or.elim (ho0.1 k_ e_.symm) (fun hs_ => hk_.2.1 hs_) (fun hn_ => Nat.not_le.2 hk_.2.2 hn_)⟩)); have n1_ := zh (blk_kept (zc BK183) hkp (fun hs_ => (fun e_ => (Kd.R_ne HO205.out BK183.out (by decide)) e_) hs_)); have n2_ := zh (blk_kept (zc BK184) hkp (fun hs_ => (fun e_ => (Kd.R_ne HO205.out BK184.out (by decide)) e_) hs_)); have n3_ := zh (Kd.N_mono (ok' := fun k_ => (P1_ k_ ∨ w.heap.size ≤ k_) ∧ k_ ≠ gb183 ∧ k_ ≠ gb184 ∧ some k_ ≠ (v211 : Value).ownBlock) (Kd.N_keptB (HO198.out) hkp (fun k_ hk_ hs_ => (hk_.2) hs_)) (fun k_ hk_ => ⟨hk_.1.1.1, hk_.1.1.2.1, hk_.1.1.2.2, fun e_ => Or.elim (ho0.1 k_ e_.symm) (fun hs_ => hk_.2.1 hs_) (fun hn_ => Nat.not_le.2 hk_.2.2 hn_)⟩)); have n4_ := zh (Kd.R_mono (ok' := fun k_ => (w.heap.size ≤ k_)) ho0 (fun k_ hk_ => Or.elim hk_ (fun hs_ => (HO205.out.1 k_ (hs_).symm)) (fun hn_ => (Nat.le_trans (below_size zb) hn_)))); have n5_ := zh (hb); clear HO_1; clear BK183; clear BK184; clear HO198; clear HB; clear HO205; clear HL202_1; clear HL208_1; have HO_1 := n0_; have BK183 := n1_; have BK184 := n2_; have HO198 := n3_; have HO212 := n4_; have HB := n5_; clear n0_ n1_ n2_ n3_ n4_ n5_; (try clear hb); (try clear hkp); (try clear ho0); have p50 : 0 ≤ (t191 : Int) := of_decide_eq_true zs; have q50 : (t191 : Int) < ((y196.length : Int) : Int) := of_decide_eq_true zs; obtain ⟨go50, co50, eo50, gb50, gl50, cl50, HG50⟩ := Kd.N_form HO198.out (by omega); (first | cases eo50 | (injection eo50 with ea_ en_ ec_; (first | subst ea_ | (injection ea_ with ea_; subst ea_)); subst ec_; clear en_)); have GB50 := zh gb50; have GG50 := zh HG50; clear gb50 gl50 HG50; obtain ⟨ce50, hcl50, hM50, hcc50, hfr50⟩ := Kd.N_elem HO198.out z60 (t191 : Int) p50 q50; obtain ⟨ua50_1, uc50_1, rfl, ul50_1, ge50_1⟩ := k60_openF hM50; have hx50_0 : w67.cell? ⟨go50, (t191 : Int).toNat * 2, none⟩ = some (.int .i64 ((rd_T60 y196 t191).f0)) := hcc50 0 _ rfl; have hx50_1 : w67.cell? ⟨go50, (t191 : Int).toNat * 2 + 1, none⟩ = some (.slice ua50_1 ((rd_T60 y196 t191).f1).length uc50_1) := hcc50 1 _ rfl; have hf50_0 : w67.frozen? ⟨go50, (t191 : Int).toNat * 2, none⟩ = false := hfr50 0; have hf50_1 : w67.frozen? ⟨go50, (t191 : Int).toNat * 2 + 1, none⟩ = false := hfr50 1; clear hcl50 hcc50 hfr50 hM50; replace p50 := eq_true p50; replace q50 := eq_true q50; have HX68 := zh (show Kd.N k60 60 w67 w.heap.size (fun k_ => (P1_ k_ ∨ w.heap.size ≤ k_) ∧ k_ ≠ gb183 ∧ k_ ≠ gb184) (.slice (some ⟨go50, 0, none⟩) y196.length co50) y196 from (by (with_reducible repeat (first | apply Kd.N_alloc | apply Kd.N_drewN | apply Kd.N_drew)); exact Kd.N_mono HO198.out (fun _ hk => ⟨hk.1, ⟨hk.2.1, hk.2.2.1⟩⟩))); obtain ⟨ce68, hcl68, hM68, hcc68, hfr68⟩ := Kd.N_elem HX68.out z60 (t191 : Int) (of_decide_eq_true zs) (by have h_ : (t191 : Int) < ((y196.length : Int) : Int) := of_decide_eq_true zs; first | exact h_ | (have e_ := (Kd.N_reads' HO198.out).1; omega) | simpa using h_); obtain ⟨ua68_1, uc68_1, rfl, ul68_1, ge68_1⟩ := k60_openF hM68; have hch_ := (Kd.R_types (Kd.R_types (Kd.R_apart' (HO212.out) (Kd.N_typed HO198.out) (by decide)) BK183.out (by decide)) BK184.out (by decide)); have HP68 := Kd.N_seg HX68.out (t191 : Int) (of_decide_eq_true zs) (by have h_ : (t191 : Int) < ((y196.length : Int) : Int) := of_decide_eq_true zs; first | exact h_ | (have e_ := (Kd.N_reads' HO198.out).1; omega) | simpa using h_) (seg := [.int .i64 t209, v211]) (j := 0) hcl68 hcc68 (show 2 ≤ 2 from by decide) (x' := (⟨t209, t210⟩ : S60)) (k60_mkV _ _ (⟨t209, t210⟩ : S60) (Kd.R_mono (ok' := (fun k_ => ((fun k_ => (P1_ k_ ∨ w.heap.size ≤ k_) ∧ k_ ≠ gb183 ∧ k_ ≠ gb184)) k_ ∧ k_ ≠ go50)) hch_ (fun k_ hk => ⟨⟨(.inr (hk.1.1.1)), ⟨hk.1.2, hk.2⟩⟩, fun e_ => (hk.1.1.2) (by rw [e_]; rfl)⟩))) (fun _ hk => hk); clear hch_; have hx68_0 := hcc68 0 _ rfl; (try simp only [show (k60).sz = 2 from rfl, Nat.mul_one, Nat.add_zero] at hx68_0); have hf68_0 := hfr68 0; (try simp only [show (k60).sz = 2 from rfl, Nat.mul_one, Nat.add_zero] at hf68_0); have hx68_1 := hcc68 1 _ rfl; (try simp only [show (k60).sz = 2 from rfl, Nat.mul_one, Nat.add_zero] at hx68_1); have hf68_1 := hfr68 1; (try simp only [show (k60).sz = 2 from rfl, Nat.mul_one, Nat.add_zero] at hf68_1); clear hcl68 hcc68 hfr68 hM68) | ((with_reducible refine gate_store (t := 60) (p := 101) rfl ?_); refine store_event (t := 60) (p := 101) (v := ?vo_w69) (w1 := ((w67.setCell ⟨go50, (t191 : Int).toNat * 2, none⟩ (.int .i64 t209)).setCell ⟨go50, (t191 : Int).toNat * 2 + 1, none⟩ (v211))) ?hg ?ho ?hn ?hr ?_; (case ho => rfl); (case hg => rfl); (case hn => rfl); (case hr => obtain ⟨av_, cv_, ev_⟩ := Kd.R_slice HO212.out; rw [ev_]; first | (go_simp; done) | (go_simp; rfl)); intro w69 hw; have hg : w67.grownBy w69 (some go50) := (by rw [hw]; exact HP68.2); have hp_ : Kd.N k60 60 w69 w.heap.size (fun k_ => (P1_ k_ ∨ w.heap.size ≤ k_) ∧ k_ ≠ gb183 ∧ k_ ≠ gb184) (.slice (some ⟨go50, 0, none⟩) y196.length co50) y213 := (by rw [hw, Ny213.out]; exact HP68.1); clear HP68; have n0_ := zh (Kd.V_afterv (v := (.slice (some ⟨go50, 0, none⟩) y196.length co50)) (v1 := (.slice (some ⟨go50, 0, none⟩) y196.length co50)) (ok := (fun k_ => (P1_ k_ ∨ w.heap.size ≤ k_) ∧ some k_ ≠ (v211 : Value).ownBlock ∧ k_ ≠ gb183 ∧ k_ ≠ gb184)) (by (with_reducible repeat (first | apply Kd.V_alloc | apply Kd.V_drewN | apply Kd.V_drew)); exact Kd.V_mono HO_1.out (fun _ hk => ⟨⟨hk.1, ⟨hk.2.2.2.2, ⟨hk.2.2.1, hk.2.2.2.1⟩⟩⟩, hk.2.1⟩)) hg (.inl rfl)); have n1_ := zh (blk_grown (g := gb183) (o := .cells #[.int .i64 a0_0, .int .i64 a0_1, .int .i64 a0_2, .slice A0_3 l0_3.length c0_3] 24 (0, 0)) (zc BK183) hg (Kd.N_ne HO198.out BK183.out (by decide))); have n2_ := zh (blk_grown (g := gb184) (o := .cells #[.int .i64 a2_0, .int .i64 a2_1, .int .i64 a2_2] 67 (0, 0)) (zc BK184) hg (Kd.N_ne HO198.out BK184.out (by decide))); have n3_ := zh (hp_); have n4_ := zh ((by rw [hw]; exact below_set (below_set (HB.out) GB50.out) GB50.out : Below w.heap.size w w69)); clear HO_1; clear BK183; clear BK184; clear HO198; clear HB; clear HO212; have HO_1 := n0_; have BK183 := n1_; have BK184 := n2_; have HO198 := n3_; have HB := n4_; clear n0_ n1_ n2_ n3_ n4_; clear hg hw hp_; have hcz70_0 : w69.cell? ⟨gb183, 0, none⟩ = some (.int .i64 a0_0) := vb BK183 0; have hcz70_1 : w69.cell? ⟨gb183, 1, none⟩ = some (.int .i64 a0_1) := vb BK183 1; have hcz70_2 : w69.cell? ⟨gb183, 2, none⟩ = some (.int .i64 a0_2) := vb BK183 2; have hcz70_3 : w69.cell? ⟨gb183, 3, none⟩ = some (.slice A0_3 l0_3.length c0_3) := vb BK183 3; have hfz70_0 := blk_frozen BK183.out 0; have hfz70_1 := blk_frozen BK183.out 1; have hfz70_2 := blk_frozen BK183.out 2; have hfz70_3 := blk_frozen BK183.out 3) | ((with_reducible refine gate_callee (f := 22) rfl ?_); refine goesL_ (some 105) rfl rfl Tryd.func22 zk rfl #[.agg #[.int .i64 a0_0, .int .i64 a0_1, .int .i64 a0_2, .slice A0_3 l0_3.length c0_3], .slice (some ⟨go50, 0, none⟩) y213.length co50] rfl (by (try simp only [List.map_toArray, List.map_cons, List.map_nil]); first | done | (rw [show y213.length = y196.length from (Kd.N_reads' HO198.out).1.symm] <;> rfl) | rfl | (simp only [List.length_drop, List.length_take]; rfl)) ?_; (with_reducible refine (kernel_Many.calls a0_0 a0_1 a0_2 _ _ l0_3 _ _ y213 t214 t215 _ ?side1 ?side2 ?side3 ?side4 ?side5 A51.out).mono ?_); (case side1 => repeat (first | exact (Kd.C_below HR0_3.out HB.out) | (with_reducible refine Kd.C_alloc ?_ _) | (with_reducible refine Kd.C_drewN ?_ _) | (with_reducible refine Kd.C_drew ?_))); (case side2 => exact HC0_3.out); (case side3 => repeat (first | exact (Kd.N_reads' HO198.out).2.2 | (with_reducible refine Kd.C_alloc ?_ _) | (with_reducible refine Kd.C_drewN ?_ _) | (with_reducible refine Kd.C_drew ?_))); (case side4 => rw [show y213.length = y196.length from (Kd.N_reads' HO198.out).1.symm]; exact (Kd.N_reads' HO198.out).2.1); (case side5 => exact Glob.below HG.out zb); rintro e w71 ⟨rfl, hb⟩; refine ⟨_, rfl, ?_⟩; have n0_ := zh (Kd.V_below (zV HO_1) hb); have n1_ := zh (Kd.N_below (zN HO198) hb); have n2_ := zh (blk_below (g := gb183) (o := .cells #[.int .i64 a0_0, .int .i64 a0_1, .int .i64 a0_2, .slice A0_3 l0_3.length c0_3] 24 (0, 0)) (zc BK183) hb); have n3_ := zh (blk_below (g := gb184) (o := .cells #[.int .i64 a2_0, .int .i64 a2_1, .int .i64 a2_2] 67 (0, 0)) (zc BK184) hb); have n4_ := zh (below_step zb hb); clear HO_1; clear HO198; clear BK183; clear BK184; clear HB; have HO_1 := n0_; have HO198 := n1_; have BK183 := n2_; have BK184 := n3_; have HB := n4_; clear n0_ n1_ n2_ n3_ n4_; (try clear hb); (try clear hb2); (try clear hk); (try clear hi); have hcz72_0 : w71.cell? ⟨gb183, 0, none⟩ = some (.int .i64 a0_0) := vb BK183 0; have hcz72_1 : w71.cell? ⟨gb183, 1, none⟩ = some (.int .i64 a0_1) := vb BK183 1; have hcz72_2 : w71.cell? ⟨gb183, 2, none⟩ = some (.int .i64 a0_2) := vb BK183 2; have hcz72_3 : w71.cell? ⟨gb183, 3, none⟩ = some (.slice A0_3 l0_3.length c0_3) := vb BK183 3; have hfz72_0 := blk_frozen BK183.out 0; have hfz72_1 := blk_frozen BK183.out 1; have hfz72_2 := blk_frozen BK183.out 2; have hfz72_3 := blk_frozen BK183.out 3) | ((with_reducible refine gate_callee (f := 24) rfl ?_); refine goesL_ (some 112) rfl rfl Tryd.func24 zk rfl #[.agg #[.int .i64 a0_0, .int .i64 a0_1, .int .i64 a0_2, .slice A0_3 l0_3.length c0_3], .slice (some ad202) l1.length c1, .int .i64 t192] rfl zm ?_; (with_reducible refine (kernel_Can.calls a0_0 a0_1 a0_2 _ _ l0_3 _ _ l1 t192 t216 t219 _ ?side1 ?side2 ?side3 ?side4 ?side5 A52.out).mono ?_); (case side1 => repeat (first | exact (Kd.C_below HR0_3.out HB.out) | (with_reducible refine Kd.C_alloc ?_ _) | (with_reducible refine Kd.C_drewN ?_ _) | (with_reducible refine Kd.C_drew ?_))); (case side2 => exact HC0_3.out); (case side3 => repeat (first | exact (Kd.V_reads' HO_1.out).2.2 | (with_reducible refine Kd.C_alloc ?_ _) | (with_reducible refine Kd.C_drewN ?_ _) | (with_reducible refine Kd.C_drew ?_))); (case side4 => exact (Kd.V_reads' HO_1.out).2.1); (case side5 => exact Glob.below HG.out zb); rintro e w73 ⟨v217, rfl, ho0, hb⟩; refine ⟨_, rfl, ?_⟩; have n0_ := zh (Kd.V_below (zV HO_1) hb); have n1_ := zh (Kd.N_below (zN HO198) hb); have n2_ := zh (Kd.V_lower (Kd.V_mono (ok' := fun k_ => (P1_ k_ ∨ w.heap.size ≤ k_) ∧ some k_ ≠ (.slice (some ⟨go50, 0, none⟩) y196.length co50 : Value).ownBlock ∧ k_ ≠ gb183 ∧ k_ ≠ gb184) ho0 (fun k_ hk_ => ⟨(.inr (Nat.le_trans (below_size zb) hk_)), (Kd.fresh' (Kd.N_lt (zN HO198)) k_ hk_), (Kd.freshB (g := gb183) (o := .cells #[.int .i64 a0_0, .int .i64 a0_1, .int .i64 a0_2, .slice A0_3 l0_3.length c0_3] 24 (0, 0)) (zc BK183) k_ hk_), (Kd.freshB (g := gb184) (o := .cells #[.int .i64 a2_0, .int .i64 a2_1, .int .i64 a2_2] 67 (0, 0)) (zc BK184) k_ hk_)⟩)) (below_size zb)); have n3_ := zh (blk_below (g := gb183) (o := .cells #[.int .i64 a0_0, .int .i64 a0_1, .int .i64 a0_2, .slice A0_3 l0_3.length c0_3] 24 (0, 0)) (zc BK183) hb); have n4_ := zh (blk_below (g := gb184) (o := .cells #[.int .i64 a2_0, .int .i64 a2_1, .int .i64 a2_2] 67 (0, 0)) (zc BK184) hb); have n5_ := zh (below_step zb hb); clear HO_1; clear HO198; clear BK183; clear BK184; clear HB; have HO_1 := n0_; have HO198 := n1_; have HO218 := n2_; have BK183 := n3_; have BK184 := n4_; have HB := n5_; clear n0_ n1_ n2_ n3_ n4_ n5_; (try clear hb); (try clear hb2); (try clear hk); (try clear hi); (try clear ho0); have hcz74_0 : w73.cell? ⟨gb183, 0, none⟩ = some (.int .i64 a0_0) := vb BK183 0; have hcz74_1 : w73.cell? ⟨gb183, 1, none⟩ = some (.int .i64 a0_1) := vb BK183 1; have hcz74_2 : w73.cell? ⟨gb183, 2, none⟩ = some (.int .i64 a0_2) := vb BK183 2; have hcz74_3 : w73.cell? ⟨gb183, 3, none⟩ = some (.slice A0_3 l0_3.length c0_3) := vb BK183 3; have hfz74_0 := blk_frozen BK183.out 0; have hfz74_1 := blk_frozen BK183.out 1; have hfz74_2 := blk_frozen BK183.out 2; have hfz74_3 := blk_frozen BK183.out 3) | ((with_reducible refine gate_callee (f := 24) rfl ?_); refine goesL_ (some 119) rfl rfl Tryd.func24 zk rfl #[.agg #[.int .i64 a0_0, .int .i64 a0_1, .int .i64 a0_2, .slice A0_3 l0_3.length c0_3], .slice (some ⟨go50, 0, none⟩) y213.length co50, .int .i64 t192] rfl (by (try simp only [List.map_toArray, List.map_cons, List.map_nil]); first | done | (rw [show y213.length = y196.length from (Kd.N_reads' HO198.out).1.symm] <;> rfl) | rfl | (simp only [List.length_drop, List.length_take]; rfl)) ?_; (with_reducible refine (kernel_Can.calls a0_0 a0_1 a0_2 _ _ l0_3 _ _ y213 t192 t220 t223 _ ?side1 ?side2 ?side3 ?side4 ?side5 A53.out).mono ?_); (case side1 => repeat (first | exact (Kd.C_below HR0_3.out HB.out) | (with_reducible refine Kd.C_alloc ?_ _) | (with_reducible refine Kd.C_drewN ?_ _) | (with_reducible refine Kd.C_drew ?_))); (case side2 => exact HC0_3.out); (case side3 => repeat (first | exact (Kd.N_reads' HO198.out).2.2 | (with_reducible refine Kd.C_alloc ?_ _) | (with_reducible refine Kd.C_drewN ?_ _) | (with_reducible refine Kd.C_drew ?_))); (case side4 => rw [show y213.length = y196.length from (Kd.N_reads' HO198.out).1.symm]; exact (Kd.N_reads' HO198.out).2.1); (case side5 => exact Glob.below HG.out zb); rintro e w75 ⟨v221, rfl, ho0, hb⟩; refine ⟨_, rfl, ?_⟩; have n0_ := zh (Kd.V_below (zV HO_1) hb); have n1_ := zh (Kd.N_below (zN HO198) hb); have n2_ := zh (Kd.V_below (zV HO218) hb); have n3_ := zh (Kd.V_lower (Kd.V_mono (ok' := fun k_ => (P1_ k_ ∨ w.heap.size ≤ k_) ∧ some k_ ≠ (.slice (some ⟨go50, 0, none⟩) y196.length co50 : Value).ownBlock ∧ k_ ≠ gb183 ∧ k_ ≠ gb184) ho0 (fun k_ hk_ => ⟨(.inr (Nat.le_trans (below_size zb) hk_)), (Kd.fresh' (Kd.N_lt (zN HO198)) k_ hk_), (Kd.freshB (g := gb183) (o := .cells #[.int .i64 a0_0, .int .i64 a0_1, .int .i64 a0_2, .slice A0_3 l0_3.length c0_3] 24 (0, 0)) (zc BK183) k_ hk_), (Kd.freshB (g := gb184) (o := .cells #[.int .i64 a2_0, .int .i64 a2_1, .int .i64 a2_2] 67 (0, 0)) (zc BK184) k_ hk_)⟩)) (below_size zb)); have n4_ := zh (blk_below (g := gb183) (o := .cells #[.int .i64 a0_0, .int .i64 a0_1, .int .i64 a0_2, .slice A0_3 l0_3.length c0_3] 24 (0, 0)) (zc BK183) hb); have n5_ := zh (blk_below (g := gb184) (o := .cells #[.int .i64 a2_0, .int .i64 a2_1, .int .i64 a2_2] 67 (0, 0)) (zc BK184) hb); have n6_ := zh (below_step zb hb); clear HO_1; clear HO198; clear HO218; clear BK183; clear BK184; clear HB; have HO_1 := n0_; have HO198 := n1_; have HO218 := n2_; have HO222 := n3_; have BK183 := n4_; have BK184 := n5_; have HB := n6_; clear n0_ n1_ n2_ n3_ n4_ n5_ n6_; (try clear hb); (try clear hb2); (try clear hk); (try clear hi); (try clear ho0)))
              (try simp only [Act.put, List.setIfInBounds_toArray, List.set_cons_zero, List.set_cons_succ])
              go_cut [152] (fun v152 wc => ∃ (kq : Nat) (x152_53 : Bool), v152 = .bool x152_53 ∧ Aside0 (saronlaw06_KernelLosing.j1 kq l1 t185 t191 t192 t216 t219 x152_53 a0_0 a0_1 a0_2 l0_3 = some r) ∧ Aside0 (kq ≤ kj4) ∧ Aside0 (Kd.V k60 60 wc w.heap.size (fun k_ => (P1_ k_ ∨ w.heap.size ≤ k_) ∧ k_ ≠ gb183 ∧ k_ ≠ gb184) (.slice (some ad202) l1.length c1) l1) ∧ Aside0 (Kd.V (Kd.int .i64) 3 wc w.heap.size (fun k_ => (P1_ k_ ∨ w.heap.size ≤ k_) ∧ k_ ≠ gb183 ∧ k_ ≠ gb184) v217 t216) ∧ Aside0 (wc.heap[gb183]? = some (.cells #[.int .i64 a0_0, .int .i64 a0_1, .int .i64 a0_2, (.slice A0_3 l0_3.length c0_3)] 24 (0, 0))) ∧ Aside0 (wc.heap[gb184]? = some (.cells #[.int .i64 a2_0, .int .i64 a2_1, .int .i64 a2_2] 67 (0, 0))) ∧ Aside0 (Below w.heap.size w wc))
              case first =>
               as_aux_lemma =>
                have H := HC54.out
                clear HC54
                by_cases c76 : t215 = 0
                ·rw [if_pos c76] at H
                 have c76b0 : (t215 == 0) = true := beq_iff_eq.mpr c76
                 have c76b1 : (t215 != 0) = false := bne_eq_false_iff_eq.mpr c76
                 clear c76
                 (first | rw [c76b0] | (simp only [i64_w, i32_w]; rw [c76b0]) | skip)
                 by_cases c77 : t214 < t185
                 ·rw [if_pos c77] at H
                  have c77b0 : decide (t214 < t185) = true := decide_eq_true c77
                  clear c77
                  have H' := zh H
                  clear H
                  go_wp2
                  go_meet
                  case rel => exact ⟨_, (true), ze, H', ⟨by have := HJ4.out; first | omega | exact Nat.le_refl _⟩, ⟨by (with_reducible repeat (first | apply Kd.V_alloc | apply Kd.V_drewN | apply Kd.V_drew)); exact Kd.V_mono HO_1.out (fun _ hk => ⟨hk.1.1, ⟨hk.1.2.2.1, hk.1.2.2.2⟩⟩)⟩, ⟨by (with_reducible repeat (first | apply Kd.V_alloc | apply Kd.V_drewN | apply Kd.V_drew)); exact Kd.V_mono HO218.out (fun _ hk => ⟨hk.1, ⟨hk.2.2.1, hk.2.2.2⟩⟩)⟩, ⟨zc BK183⟩, ⟨zc BK184⟩, ⟨zb⟩⟩
                 ·rw [if_neg c77] at H
                  have c77b0 : decide (t214 < t185) = false := decide_eq_false c77
                  clear c77
                  by_cases c78 : ((t219 == 0) != (decide (t185 > 0))) = true
                  ·rw [if_pos c78] at H
                   have c78b0 : ((t219 == 0) != (decide (t185 > 0))) = true := c78
                   (try (have c78b1 : decide ((t219 == 0) = (decide (t185 > 0))) = false := by simpa using c78))
                   (try (have c78b2 : ((t219 == 0) == (decide (t185 > 0))) = false := by simpa using c78))
                   (try (have c78b3 : ¬ ((t219 == 0) = (decide (t185 > 0))) := by simpa using c78))
                   clear c78
                   have H' := zh H
                   clear H
                   go_wp2
                   go_meet
                   case rel => exact ⟨_, (true), ze, H', ⟨by have := HJ4.out; first | omega | exact Nat.le_refl _⟩, ⟨by (with_reducible repeat (first | apply Kd.V_alloc | apply Kd.V_drewN | apply Kd.V_drew)); exact Kd.V_mono HO_1.out (fun _ hk => ⟨hk.1.1, ⟨hk.1.2.2.1, hk.1.2.2.2⟩⟩)⟩, ⟨by (with_reducible repeat (first | apply Kd.V_alloc | apply Kd.V_drewN | apply Kd.V_drew)); exact Kd.V_mono HO218.out (fun _ hk => ⟨hk.1, ⟨hk.2.2.1, hk.2.2.2⟩⟩)⟩, ⟨zc BK183⟩, ⟨zc BK184⟩, ⟨zb⟩⟩
                  ·rw [if_neg c78] at H
                   have c78b0 : ((t219 == 0) != (decide (t185 > 0))) = false := by simpa using c78
                   (try (have c78b1 : decide ((t219 == 0) = (decide (t185 > 0))) = true := by simpa using c78))
                   (try (have c78b2 : ((t219 == 0) == (decide (t185 > 0))) = true := by simpa using c78))
                   clear c78
                   by_cases c79 : ((t223 == 0) != (decide (t214 > 0))) = true
                   ·rw [if_pos c79] at H
                    have c79b0 : ((t223 == 0) != (decide (t214 > 0))) = true := c79
                    (try (have c79b1 : decide ((t223 == 0) = (decide (t214 > 0))) = false := by simpa using c79))
                    (try (have c79b2 : ((t223 == 0) == (decide (t214 > 0))) = false := by simpa using c79))
                    (try (have c79b3 : ¬ ((t223 == 0) = (decide (t214 > 0))) := by simpa using c79))
                    clear c79
                    have H' := zh H
                    clear H
                    go_wp2
                    go_meet
                    case rel => exact ⟨_, (true), ze, H', ⟨by have := HJ4.out; first | omega | exact Nat.le_refl _⟩, ⟨by (with_reducible repeat (first | apply Kd.V_alloc | apply Kd.V_drewN | apply Kd.V_drew)); exact Kd.V_mono HO_1.out (fun _ hk => ⟨hk.1.1, ⟨hk.1.2.2.1, hk.1.2.2.2⟩⟩)⟩, ⟨by (with_reducible repeat (first | apply Kd.V_alloc | apply Kd.V_drewN | apply Kd.V_drew)); exact Kd.V_mono HO218.out (fun _ hk => ⟨hk.1, ⟨hk.2.2.1, hk.2.2.2⟩⟩)⟩, ⟨zc BK183⟩, ⟨zc BK184⟩, ⟨zb⟩⟩
                   ·rw [if_neg c79] at H
                    have c79b0 : ((t223 == 0) != (decide (t214 > 0))) = false := by simpa using c79
                    (try (have c79b1 : decide ((t223 == 0) = (decide (t214 > 0))) = true := by simpa using c79))
                    (try (have c79b2 : ((t223 == 0) == (decide (t214 > 0))) = true := by simpa using c79))
                    clear c79
                    by_cases c80 : t219 = 0
                    ·rw [if_pos c80] at H
                     have c80b0 : (t219 == 0) = true := beq_iff_eq.mpr c80
                     have c80b1 : (t219 != 0) = false := bne_eq_false_iff_eq.mpr c80
                     have c80d : decide (0 < t185) = true := by simpa [c80b0] using c78b0
                     clear c80
                     replace H := Option.bind_eq_some_iff.mp H
                     obtain ⟨t224, A810, H⟩ := H
                     replace H : (saronlaw06_KernelLosing.j1 kj4 l1 t185 t191 t192 t216 t219 (!t224) a0_0 a0_1 a0_2 l0_3) = some r := H
                     have A81 := zh A810
                     clear A810
                     have H' := zh H
                     clear H
                     obtain ⟨Ao82, co82, eo82⟩ := Kd.V_slice HO218.out
                     subst eo82
                     obtain ⟨Ao83, co83, eo83⟩ := Kd.V_slice HO222.out
                     subst eo83
                     go_wp2_with (first | (go_at_call 46; (with_reducible refine (saronlaw06_all.calls kj4 _ _ t216 _ _ t220 t224 _ ?side1 ?side2 ?side3 ?side4 A81.out).mono ?_); (case side1 => repeat (first | exact (Kd.V_reads' HO218.out).2.2 | (with_reducible refine Kd.C_alloc ?_ _) | (with_reducible refine Kd.C_drewN ?_ _) | (with_reducible refine Kd.C_drew ?_))); (case side2 => exact (Kd.V_reads' HO218.out).2.1); (case side3 => repeat (first | exact (Kd.V_reads' HO222.out).2.2 | (with_reducible refine Kd.C_alloc ?_ _) | (with_reducible refine Kd.C_drewN ?_ _) | (with_reducible refine Kd.C_drew ?_))); (case side4 => exact (Kd.V_reads' HO222.out).2.1); rintro e w' ⟨rfl, ⟨nd, rfl⟩⟩))
                     go_meet
                     case rel => exact ⟨_, (!t224), ze, H', ⟨by have := HJ4.out; first | omega | exact Nat.le_refl _⟩, ⟨by (with_reducible repeat (first | apply Kd.V_alloc | apply Kd.V_drewN | apply Kd.V_drew)); exact Kd.V_mono HO_1.out (fun _ hk => ⟨hk.1.1, ⟨hk.1.2.2.1, hk.1.2.2.2⟩⟩)⟩, ⟨by (with_reducible repeat (first | apply Kd.V_alloc | apply Kd.V_drewN | apply Kd.V_drew)); exact Kd.V_mono HO218.out (fun _ hk => ⟨hk.1, ⟨hk.2.2.1, hk.2.2.2⟩⟩)⟩, ⟨zc BK183⟩, ⟨zc BK184⟩, ⟨zb⟩⟩
                    ·rw [if_neg c80] at H
                     have c80b0 : (t219 == 0) = false := beq_eq_false_iff_ne.mpr c80
                     have c80b1 : (t219 != 0) = true := bne_iff_ne.mpr c80
                     have c80d : decide (0 < t185) = false := by simpa [c80b0] using c78b0
                     have H' := zh H
                     clear H
                     go_wp2
                     go_meet
                     case rel => exact ⟨_, (false), ze, H', ⟨by have := HJ4.out; first | omega | exact Nat.le_refl _⟩, ⟨by (with_reducible repeat (first | apply Kd.V_alloc | apply Kd.V_drewN | apply Kd.V_drew)); exact Kd.V_mono HO_1.out (fun _ hk => ⟨hk.1.1, ⟨hk.1.2.2.1, hk.1.2.2.2⟩⟩)⟩, ⟨by (with_reducible repeat (first | apply Kd.V_alloc | apply Kd.V_drewN | apply Kd.V_drew)); exact Kd.V_mono HO218.out (fun _ hk => ⟨hk.1, ⟨hk.2.2.1, hk.2.2.2⟩⟩)⟩, ⟨zc BK183⟩, ⟨zc BK184⟩, ⟨zb⟩⟩
                ·rw [if_neg c76] at H
                 have c76b0 : (t215 == 0) = false := beq_eq_false_iff_ne.mpr c76
                 have c76b1 : (t215 != 0) = true := bne_iff_ne.mpr c76
                 (first | rw [c76b0] | (simp only [i64_w, i32_w]; rw [c76b0]) | skip)
                 have H' := zh H
                 clear H
                 go_wp2
                 go_meet
                 case rel => exact ⟨_, (true), ze, H', ⟨by have := HJ4.out; first | omega | exact Nat.le_refl _⟩, ⟨by (with_reducible repeat (first | apply Kd.V_alloc | apply Kd.V_drewN | apply Kd.V_drew)); exact Kd.V_mono HO_1.out (fun _ hk => ⟨hk.1.1, ⟨hk.1.2.2.1, hk.1.2.2.2⟩⟩)⟩, ⟨by (with_reducible repeat (first | apply Kd.V_alloc | apply Kd.V_drewN | apply Kd.V_drew)); exact Kd.V_mono HO218.out (fun _ hk => ⟨hk.1, ⟨hk.2.2.1, hk.2.2.2⟩⟩)⟩, ⟨zc BK183⟩, ⟨zc BK184⟩, ⟨zb⟩⟩
              case rest =>
               as_aux_lemma =>
                clear HC54
                try clear c1
                try clear c2
                try clear p2
                try clear q2
                try clear hx2
                try clear c3
                try clear c4
                try clear p4
                try clear q4
                try clear hx4
                try clear hf4
                try clear c5
                try clear p5
                try clear q5
                try clear hx5
                try clear hf5
                try clear c6
                try clear hx6
                try clear hf6
                try clear c7
                try clear c8
                try clear c11
                try clear c12
                try clear c13
                try clear c16
                try clear c19
                try clear c20
                try clear c20b0
                try clear c20b1
                try clear p20
                try clear q20
                try clear hx20
                try clear c21
                try clear c21b0
                try clear c21b1
                try clear c22
                try clear c24
                try clear c24b0
                try clear c24b1
                try clear c25
                try clear c25b0
                try clear c25b1
                try clear c28
                try clear c28b0
                try clear c28b1
                try clear c31
                try clear c32
                try clear c32b0
                try clear c33
                try clear c33b0
                try clear c34
                try clear c35
                try clear c35b0
                try clear c35b1
                try clear c35b2
                try clear c39
                try clear c42
                try clear c44
                try clear c45
                try clear c45b0
                try clear c46
                try clear c46b0
                try clear p47
                try clear q47
                try clear hx47
                try clear hf47
                try clear c49
                try clear c49b0
                try clear c50
                try clear p50
                try clear q50
                try clear hx50
                try clear hf50
                try clear c63
                try clear c68
                try clear hx68
                try clear hf68
                try clear c76
                try clear c76b0
                try clear c76b1
                try clear c77
                try clear c77b0
                try clear c78
                try clear c78b0
                try clear c78b1
                try clear c78b2
                try clear c79
                try clear c79b0
                try clear c79b1
                try clear c79b2
                try clear c80
                try clear c80b0
                try clear c80b1
                try clear hcz14_0
                try clear hcz14_1
                try clear hcz14_2
                try clear hcz14_3
                try clear hcz17_0
                try clear hcz17_1
                try clear hcz17_2
                try clear hcz17_3
                try clear hcz64_0
                try clear hcz64_1
                try clear hcz64_2
                try clear hcz70_0
                try clear hcz70_1
                try clear hcz70_2
                try clear hcz70_3
                try clear hcz72_0
                try clear hcz72_1
                try clear hcz72_2
                try clear hcz72_3
                try clear hcz74_0
                try clear hcz74_1
                try clear hcz74_2
                try clear hcz74_3
                try clear hcz9_0
                try clear hcz9_1
                try clear hcz9_2
                try clear hcz9_3
                try clear hfz14_0
                try clear hfz14_1
                try clear hfz14_2
                try clear hfz14_3
                try clear hfz17_0
                try clear hfz17_1
                try clear hfz17_2
                try clear hfz17_3
                try clear hfz64_0
                try clear hfz64_1
                try clear hfz64_2
                try clear hfz70_0
                try clear hfz70_1
                try clear hfz70_2
                try clear hfz70_3
                try clear hfz72_0
                try clear hfz72_1
                try clear hfz72_2
                try clear hfz72_3
                try clear hfz74_0
                try clear hfz74_1
                try clear hfz74_2
                try clear hfz74_3
                try clear hfz9_0
                try clear hfz9_1
                try clear hfz9_2
                try clear hfz9_3
                try clear hx202_0
                try clear hx202_1
                try clear hx208_0
                try clear hx208_1
                try clear hx47_0
                try clear hx50_0
                try clear hx50_1
                try clear hx68_0
                try clear hx68_1
                try clear p2
                try clear p202
                try clear p208
                try clear p47
                try clear p50
                try clear q202
                try clear q208
                try clear q47
                try clear q50
                obtain ⟨kq, x152_53, rfl, HA, HJ53, HO_1, HO_15, BK183, BK184, HB⟩ := hcut
                cases kq with
                | zero => exact absurd HA.out (by simp [saronlaw06_KernelLosing.j1])
                | succ kj53 =>
                 have H := HA.out
                 clear HA
                 simp only [saronlaw06_KernelLosing.j1] at H
                 by_cases c84 : x152_53 = true
                 ·subst c84
                  have H1 : (some false) = some r := by rw [if_pos rfl] at H; exact H
                  clear H
                  have H := H1
                  clear H1
                  exact absurd ((Option.some.inj H).trans HRT.out) (by decide)
                 ·replace c84 := Bool.eq_false_iff.mpr c84
                  subst c84
                  have H1 : (if (l1.length : Int) > 1 then (if 0 ≤ (wrap64 ((l1.length : Int) - 1)) then (if (wrap64 ((l1.length : Int) - 1)) ≤ (l1.length : Int) then ((kernel_Many.f a0_0 a0_1 a0_2 l0_3 (l1.take ((wrap64 ((l1.length : Int) - 1)) : Int).toNat)).bind fun bt230 => (if bt230.2 = 0 then (if bt230.1 < t185 then (some false) else (saronlaw06_KernelLosing.j2 kj53 l1 t185 t191 t192 t216 t219 a0_0 a0_1 a0_2 l0_3)) else (some false))) else (none)) else (none)) else (saronlaw06_KernelLosing.j2 kj53 l1 t185 t191 t192 t216 t219 a0_0 a0_1 a0_2 l0_3)) = some r := by rw [if_neg (show ¬ (false = true) by decide)] at H; exact H
                  clear H
                  have H := H1
                  clear H1
                  have HC85 := zh H
                  clear H
                  go_upto_if 155 with (fail)
                  go_cut [] (fun wc => ∃ (kq : Nat), Aside0 (saronlaw06_KernelLosing.j2 kq l1 t185 t191 t192 t216 t219 a0_0 a0_1 a0_2 l0_3 = some r) ∧ Aside0 (kq ≤ kj53) ∧ Aside0 (Kd.V k60 60 wc w.heap.size (fun k_ => (P1_ k_ ∨ w.heap.size ≤ k_) ∧ k_ ≠ gb183 ∧ k_ ≠ gb184) (.slice (some ad202) l1.length c1) l1) ∧ Aside0 (Kd.V (Kd.int .i64) 3 wc w.heap.size (fun k_ => (P1_ k_ ∨ w.heap.size ≤ k_) ∧ k_ ≠ gb183 ∧ k_ ≠ gb184) v217 t216) ∧ Aside0 (wc.heap[gb183]? = some (.cells #[.int .i64 a0_0, .int .i64 a0_1, .int .i64 a0_2, (.slice A0_3 l0_3.length c0_3)] 24 (0, 0))) ∧ Aside0 (wc.heap[gb184]? = some (.cells #[.int .i64 a2_0, .int .i64 a2_1, .int .i64 a2_2] 67 (0, 0))) ∧ Aside0 (Below w.heap.size w wc))
                  case first =>
                   as_aux_lemma =>
                    have H := HC85.out
                    clear HC85
                    by_cases c86 : (l1.length : Int) > 1
                    ·rw [if_pos c86] at H
                     have c86b0 : decide (1 < (l1.length : Int)) = true := decide_eq_true c86
                     have c86b1 : decide (1 < l1.length) = true := decide_eq_true (by omega)
                     clear c86
                     (first | rw [c86b0] | (simp only [i64_w, i32_w]; rw [c86b0]) | skip)
                     obtain ⟨ji87, hji87⟩ : ∃ j_ : Int, (wrap64 ((l1.length : Int) - 1)) = j_ := ⟨_, rfl⟩
                     replace H : (if 0 ≤ (ji87) then (if (ji87) ≤ (l1.length : Int) then ((kernel_Many.f a0_0 a0_1 a0_2 l0_3 (l1.take ((ji87) : Int).toNat)).bind fun bt230 => (if bt230.2 = 0 then (if bt230.1 < t185 then (some false) else (saronlaw06_KernelLosing.j2 kj53 l1 t185 t191 t192 t216 t219 a0_0 a0_1 a0_2 l0_3)) else (some false))) else (none)) else (none)) = some r := by first | (rw [hji87] at H; exact H) | (simp only [hji87] at H ⊢; exact H)
                     have hji87w : (IntKind.i64.wrap ((l1.length : Int) - 1)) = ji87 := (i64_w _).trans hji87
                     by_cases c88 : 0 ≤ (ji87)
                     ·rw [if_pos c88] at H
                      have c88b0 := eq_true c88
                      have c88b1 : decide (0 ≤ (ji87)) = true := decide_eq_true c88
                      clear c88
                      by_cases c89 : (ji87) ≤ (l1.length : Int)
                      ·rw [if_pos c89] at H
                       have c89b0 := eq_true c89
                       have c89b1 : decide ((ji87) ≤ (l1.length : Int)) = true := decide_eq_true c89
                       clear c89
                       obtain ⟨y225, hy225⟩ : ∃ y_ : List (S60), y_ = (l1.take ((ji87) : Int).toNat) := ⟨_, rfl⟩
                       replace H : ((kernel_Many.f a0_0 a0_1 a0_2 l0_3 y225).bind fun bt230 => (if bt230.2 = 0 then (if bt230.1 < t185 then (some false) else (saronlaw06_KernelLosing.j2 kj53 l1 t185 t191 t192 t216 t219 a0_0 a0_1 a0_2 l0_3)) else (some false))) = some r := by first | (rw [hy225]; with_reducible exact H) | (have H2_ := (Option.bind_some _ _).symm.trans H; rw [hy225]; with_reducible exact H2_) | (have H2_ := (Option.bind_some _ _).symm.trans H; with_reducible exact H2_) | with_reducible exact H | (rw [hy225]; exact H) | exact H
                       have Ny225 := zh hy225
                       clear hy225
                       replace H := Option.bind_eq_some_iff.mp H
                       obtain ⟨⟨t230, t231⟩, A900, H⟩ := H
                       replace H : (if t231 = 0 then (if t230 < t185 then (some false) else (saronlaw06_KernelLosing.j2 kj53 l1 t185 t191 t192 t216 t219 a0_0 a0_1 a0_2 l0_3)) else (some false)) = some r := H
                       have A90 := zh A900
                       clear A900
                       by_cases c91 : t231 = 0
                       ·rw [if_pos c91] at H
                        have c91b0 : (t231 == 0) = true := beq_iff_eq.mpr c91
                        have c91b1 : (t231 != 0) = false := bne_eq_false_iff_eq.mpr c91
                        clear c91
                        by_cases c92 : t230 < t185
                        ·rw [if_pos c92] at H
                         have c92b0 : decide (t230 < t185) = true := decide_eq_true c92
                         clear c92
                         exact absurd ((Option.some.inj H).trans HRT.out) (by decide)
                        ·rw [if_neg c92] at H
                         have c92b0 : decide (t230 < t185) = false := decide_eq_false c92
                         clear c92
                         have H' := zh H
                         clear H
                         try go_wp2
                         replace HO_1 := zh (Kd.V_drew HO_1.out)
                         replace HO_15 := zh (Kd.V_drew HO_15.out)
                         replace BK183 := zh (blk_drew BK183.out)
                         replace BK184 := zh (blk_drew BK184.out)
                         replace HB := zh (below_drew1 HB.out)
                         have q97 : ((ji87) : Int) ≤ ((l1.length : Int) : Int) := of_decide_eq_true zs
                         obtain ⟨i097, hi097, _, hsz97, _⟩ := info_parts info60
                         have hroom97 : l1.length ≤ c1 := (Kd.V_reads' HO_1.out).2.1
                         have hC97 : Kd.F k60 _ _ (some ad202) l1.length l1 := (Kd.V_at (base := w.heap.size) HO_1.out).2.2
                         have hcut97 := cut_to (P := Tryd.prog) 33 60 .i64 Tryd.underlying33 hi097 (some ad202) l1.length c1 (ji87) (of_decide_eq_true zs) q97 hroom97
                         have hr97 := Kd.F_take (m := ((ji87) : Int).toNat) hC97 (by omega)
                         have hy97 : y225.length = ((ji87) : Int).toNat := (by rw [Ny225.out, List.length_take]; omega)
                         rw [← Ny225.out] at hr97
                         rw [← hy97] at hcut97
                         have HO229 := zh (show Kd.V k60 60 _ w.heap.size _ (.slice (some ad202) y225.length c1) y225 from Kd.V_mk (by omega) hr97)
                         have HC229 := zh (show y225.length ≤ c1 from by omega)
                         clear hr97 hC97 hroom97 hi097 hsz97
                         have KY97 := zh hy97
                         clear hy97
                         replace q97 := eq_true q97
                         refine start_ (n := 12) (S := fun w' => w'.cell? ⟨gb183, 0, none⟩ = some (.int .i64 a0_0) ∧ w'.cell? ⟨gb183, 1, none⟩ = some (.int .i64 a0_1) ∧ w'.cell? ⟨gb183, 2, none⟩ = some (.int .i64 a0_2) ∧ w'.cell? ⟨gb183, 3, none⟩ = some (.slice A0_3 l0_3.length c0_3)) (ds := []) (Array.replicate 12 false) zk rfl rfl ⟨vb BK183 0, vb BK183 1, vb BK183 2, vb BK183 3⟩ (fun hHeld => ?_); refine with_tabW saronlaw06_KernelLosing.tab19 saronlaw06_KernelLosing.bits19 (fun HT_ HW_ => ?_)
                         generalize wc.drew = w96 at HO_1 HO_15 BK183 BK184 HB HO229 hHeld ⊢
                         refine zu 1 ?_
                         refine zu 2 ?_
                         refine zu 3 ?_
                         refine zu 4 ?_
                         refine zu 5 ?_
                         refine zt 0 ?_
                         refine zo 6 (fun K hK => ?_)
                         refine goes_ Tryd.func22 zk rfl #[.agg #[.int .i64 a0_0, .int .i64 a0_1, .int .i64 a0_2, .slice A0_3 l0_3.length c0_3], .slice (some ad202) y225.length c1] (by rfl) rfl rfl zm ?_
                         with_reducible refine (kernel_Many.calls a0_0 a0_1 a0_2 _ _ l0_3 _ _ y225 t230 t231 _ ?side1 ?side2 ?side3 ?side4 ?side5 A90.out).mono ?_
                         (case side1 => repeat (first | exact (Kd.C_below HR0_3.out HB.out) | (with_reducible refine Kd.C_alloc ?_ _) | (with_reducible refine Kd.C_drewN ?_ _) | (with_reducible refine Kd.C_drew ?_)))
                         (case side2 => exact HC0_3.out)
                         (case side3 => repeat (first | exact (Kd.V_reads' HO229.out).2.2 | (with_reducible refine Kd.C_alloc ?_ _) | (with_reducible refine Kd.C_drewN ?_ _) | (with_reducible refine Kd.C_drew ?_)))
                         (case side4 => exact (Kd.V_reads' HO229.out).2.1)
                         (case side5 => exact Glob.below HG.out zb)
                         rintro e w98 ⟨rfl, hb⟩
                         refine ⟨_, rfl, ?_⟩
                         replace HO_1 := zh (Kd.V_below (zV HO_1) hb)
                         replace HO_15 := zh (Kd.V_below (zV HO_15) hb)
                         replace HO229 := zh (Kd.V_below (zV HO229) hb)
                         replace BK183 := zh (blk_below (g := gb183) (o := .cells #[.int .i64 a0_0, .int .i64 a0_1, .int .i64 a0_2, .slice A0_3 l0_3.length c0_3] 24 (0, 0)) (zc BK183) hb)
                         replace BK184 := zh (blk_below (g := gb184) (o := .cells #[.int .i64 a2_0, .int .i64 a2_1, .int .i64 a2_2] 67 (0, 0)) (zc BK184) hb)
                         replace HB := zh (below_step zb hb)
                         (try clear hb)
                         (try clear hb2)
                         (try clear hk)
                         (try clear hi)
                         refine hK.out _ _ ⟨vb BK183 0, vb BK183 1, vb BK183 2, vb BK183 3⟩ (fun hHeld => ?_)
                         clear hK K
                         refine zr 163 _ ?_
                         refine zu 7 ?_
                         refine zu 8 ?_
                         refine zu 9 ?_
                         refine zu 10 ?_
                         refine zu 11 ?_
                         refine zd ?_
                         try go_wp2
                         go_meet
                         case rel => exact ⟨_, H', ⟨by have := HJ4.out; have := HJ53.out; first | omega | exact Nat.le_refl _⟩, ⟨zV HO_1⟩, ⟨zV HO_15⟩, ⟨zc BK183⟩, ⟨zc BK184⟩, ⟨zb⟩⟩
                       ·rw [if_neg c91] at H
                        have c91b0 : (t231 == 0) = false := beq_eq_false_iff_ne.mpr c91
                        have c91b1 : (t231 != 0) = true := bne_iff_ne.mpr c91
                        exact absurd ((Option.some.inj H).trans HRT.out) (by decide)
                      ·rw [if_neg c89] at H
                       exact absurd H (by simp)
                     ·rw [if_neg c88] at H
                      exact absurd H (by simp)
                    ·rw [if_neg c86] at H
                     have c86b0 : decide (1 < (l1.length : Int)) = false := decide_eq_false c86
                     have c86b1 : decide (1 < l1.length) = false := decide_eq_false (by omega)
                     clear c86
                     (first | rw [c86b0] | (simp only [i64_w, i32_w]; rw [c86b0]) | skip)
                     have H' := zh H
                     clear H
                     go_wp2
                     go_meet
                     case rel => exact ⟨_, H', ⟨by have := HJ4.out; have := HJ53.out; first | omega | exact Nat.le_refl _⟩, ⟨zV HO_1⟩, ⟨zV HO_15⟩, ⟨zc BK183⟩, ⟨zc BK184⟩, ⟨zb⟩⟩
                  case rest =>
                   as_aux_lemma =>
                    clear HC85
                    try clear c1
                    try clear q1
                    try clear c2
                    try clear p2
                    try clear q2
                    try clear p4
                    try clear q4
                    try clear p5
                    try clear q5
                    try clear p6
                    try clear c8
                    try clear c9
                    try clear q9
                    try clear q10
                    try clear p20
                    try clear q20
                    try clear c22
                    try clear p47
                    try clear q47
                    try clear p50
                    try clear q50
                    try clear p64
                    try clear c84
                    try clear c86
                    try clear c86b0
                    try clear c86b1
                    try clear c88
                    try clear c88b0
                    try clear c88b1
                    try clear c89
                    try clear c89b0
                    try clear c89b1
                    try clear c91
                    try clear c91b0
                    try clear c91b1
                    try clear c92
                    try clear c92b0
                    try clear q94
                    try clear q97
                    try clear q100
                    try clear p2
                    try clear p202
                    try clear p208
                    try clear p47
                    try clear p50
                    try clear q100
                    try clear q202
                    try clear q208
                    try clear q47
                    try clear q50
                    try clear q94
                    try clear q97
                    obtain ⟨kq, HA, HJ84, HO_1, HO_15, BK183, BK184, HB⟩ := hcut
                    cases kq with
                    | zero => exact absurd HA.out (by simp [saronlaw06_KernelLosing.j2])
                    | succ kj84 =>
                     have H := HA.out
                     clear HA
                     simp only [saronlaw06_KernelLosing.j2] at H
                     by_cases c102 : (l1.length : Int) = 5
                     ·rw [if_pos c102] at H
                      have c102b0 : ((l1.length : Int) == 5) = true := beq_iff_eq.mpr c102
                      have c102b1 : ((l1.length : Int) != 5) = false := bne_eq_false_iff_eq.mpr c102
                      clear c102
                      replace H := Option.bind_eq_some_iff.mp H
                      obtain ⟨t232, A1030, H⟩ := H
                      replace H : (some t232) = some r := H
                      have A103 := zh A1030
                      clear A1030
                      obtain rfl := Option.some.inj H
                      go_wp2_with (first | ((with_reducible refine gate_callee (f := 21) rfl ?_); refine goesL_ (some 176) rfl rfl Tryd.func21 zk rfl #[] rfl zm ?_; (with_reducible refine (saronlaw06_works.calls  t232 _ ?side1 A103.out).mono ?_); (case side1 => exact Glob.below HG.out zb); rintro e w104 ⟨rfl, hb⟩; refine ⟨_, rfl, ?_⟩; have n0_ := zh (Kd.V_below (zV HO_1) hb); have n1_ := zh (Kd.V_below (zV HO_15) hb); have n2_ := zh (blk_below (g := gb183) (o := .cells #[.int .i64 a0_0, .int .i64 a0_1, .int .i64 a0_2, .slice A0_3 l0_3.length c0_3] 24 (0, 0)) (zc BK183) hb); have n3_ := zh (blk_below (g := gb184) (o := .cells #[.int .i64 a2_0, .int .i64 a2_1, .int .i64 a2_2] 67 (0, 0)) (zc BK184) hb); have n4_ := zh (below_step zb hb); clear HO_1; clear HO_15; clear BK183; clear BK184; clear HB; have HO_1 := n0_; have HO_15 := n1_; have BK183 := n2_; have BK184 := n3_; have HB := n4_; clear n0_ n1_ n2_ n3_ n4_; (try clear hb); (try clear hb2); (try clear hk); (try clear hi)))
                      go_ret
                      exact ⟨zf, zb⟩
                     ·rw [if_neg c102] at H
                      have c102b0 : ((l1.length : Int) == 5) = false := beq_eq_false_iff_ne.mpr c102
                      have c102b1 : ((l1.length : Int) != 5) = true := bne_iff_ne.mpr c102
                      obtain ⟨y233, hy233⟩ : ∃ y_ : List (S60), y_ = (([] : List (S60))) := ⟨_, rfl⟩
                      replace H : (if y233.length + l1.length < 4398046511104 then ((some (y233 ++ l1 : List (S60))).bind fun y236 => (if 0 ≤ t191 then (if t191 < (l1.length : Int) then (if y236.length < 4398046511104 then ((some (y236 ++ [(⟨(rd_T60 l1 t191).f0, (rd_T60 l1 t191).f1⟩ : S60)] : List (S60))).bind fun y240 => ((kernel_Many.f a0_0 a0_1 a0_2 l0_3 y240).bind fun bt243 => ((kernel_Can.f a0_0 a0_1 a0_2 l0_3 y240 t192).bind fun bt245 => (if bt243.2 = 0 then (if bt243.1 = t185 then (if bt245.2 = t219 then ((saronref00_Equal.f kj84 t216 bt245.1).bind fun t249 => (if t249 = true then ((saronlaw06_works.f).bind fun t250 => (some t250)) else (some false))) else (some false)) else (some false)) else (some false))))) else (none)) else (none)) else (none))) else (none)) = some r := by first | (rw [hy233]; with_reducible exact H) | (have H2_ := (Option.bind_some _ _).symm.trans H; rw [hy233]; with_reducible exact H2_) | (have H2_ := (Option.bind_some _ _).symm.trans H; with_reducible exact H2_) | with_reducible exact H | (rw [hy233]; exact H) | exact H
                      have Ny233 := zh hy233
                      clear hy233
                      by_cases c105 : y233.length + l1.length < 4398046511104
                      ·rw [if_pos c105] at H
                       have LMc105 := zh c105
                       clear c105
                       obtain ⟨y236, hy236⟩ : ∃ y_ : List (S60), y_ = (y233 ++ l1) := ⟨_, rfl⟩
                       replace H : (if 0 ≤ t191 then (if t191 < (l1.length : Int) then (if y236.length < 4398046511104 then ((some (y236 ++ [(⟨(rd_T60 l1 t191).f0, (rd_T60 l1 t191).f1⟩ : S60)] : List (S60))).bind fun y240 => ((kernel_Many.f a0_0 a0_1 a0_2 l0_3 y240).bind fun bt243 => ((kernel_Can.f a0_0 a0_1 a0_2 l0_3 y240 t192).bind fun bt245 => (if bt243.2 = 0 then (if bt243.1 = t185 then (if bt245.2 = t219 then ((saronref00_Equal.f kj84 t216 bt245.1).bind fun t249 => (if t249 = true then ((saronlaw06_works.f).bind fun t250 => (some t250)) else (some false))) else (some false)) else (some false)) else (some false))))) else (none)) else (none)) else (none)) = some r := by first | (rw [hy236]; with_reducible exact H) | (have H2_ := (Option.bind_some _ _).symm.trans H; rw [hy236]; with_reducible exact H2_) | (have H2_ := (Option.bind_some _ _).symm.trans H; with_reducible exact H2_) | with_reducible exact H | (rw [hy236]; exact H) | exact H
                       have Ny236 := zh hy236
                       clear hy236
                       by_cases c106 : 0 ≤ t191
                       ·rw [if_pos c106] at H
                        have c106b0 : decide (0 ≤ t191) = true := decide_eq_true c106
                        clear c106
                        by_cases c107 : t191 < (l1.length : Int)
                        ·rw [if_pos c107] at H
                         have c107b0 : decide (t191 < (l1.length : Int)) = true := decide_eq_true c107
                         clear c107
                         by_cases c108 : y236.length < 4398046511104
                         ·rw [if_pos c108] at H
                          have LMc108 := zh c108
                          clear c108
                          obtain ⟨y240, hy240⟩ : ∃ y_ : List (S60), y_ = (y236 ++ [(⟨(rd_T60 l1 t191).f0, (rd_T60 l1 t191).f1⟩ : S60)]) := ⟨_, rfl⟩
                          replace H : ((kernel_Many.f a0_0 a0_1 a0_2 l0_3 y240).bind fun bt243 => ((kernel_Can.f a0_0 a0_1 a0_2 l0_3 y240 t192).bind fun bt245 => (if bt243.2 = 0 then (if bt243.1 = t185 then (if bt245.2 = t219 then ((saronref00_Equal.f kj84 t216 bt245.1).bind fun t249 => (if t249 = true then ((saronlaw06_works.f).bind fun t250 => (some t250)) else (some false))) else (some false)) else (some false)) else (some false)))) = some r := by first | (rw [hy240]; with_reducible exact H) | (have H2_ := (Option.bind_some _ _).symm.trans H; rw [hy240]; with_reducible exact H2_) | (have H2_ := (Option.bind_some _ _).symm.trans H; with_reducible exact H2_) | with_reducible exact H | (rw [hy240]; exact H) | exact H
                          have Ny240 := zh hy240
                          clear hy240
                          replace H := Option.bind_eq_some_iff.mp H
                          obtain ⟨⟨t243, t244⟩, A1090, H⟩ := H
                          replace H : ((kernel_Can.f a0_0 a0_1 a0_2 l0_3 y240 t192).bind fun bt245 => (if t244 = 0 then (if t243 = t185 then (if bt245.2 = t219 then ((saronref00_Equal.f kj84 t216 bt245.1).bind fun t249 => (if t249 = true then ((saronlaw06_works.f).bind fun t250 => (some t250)) else (some false))) else (some false)) else (some false)) else (some false))) = some r := H
                          have A109 := zh A1090
                          clear A1090
                          replace H := Option.bind_eq_some_iff.mp H
                          obtain ⟨⟨t245, t248⟩, A1100, H⟩ := H
                          replace H : (if t244 = 0 then (if t243 = t185 then (if t248 = t219 then ((saronref00_Equal.f kj84 t216 t245).bind fun t249 => (if t249 = true then ((saronlaw06_works.f).bind fun t250 => (some t250)) else (some false))) else (some false)) else (some false)) else (some false)) = some r := H
                          have A110 := zh A1100
                          clear A1100
                          by_cases c111 : t244 = 0
                          ·rw [if_pos c111] at H
                           have c111b0 : (t244 == 0) = true := beq_iff_eq.mpr c111
                           have c111b1 : (t244 != 0) = false := bne_eq_false_iff_eq.mpr c111
                           clear c111
                           by_cases c112 : t243 = t185
                           ·rw [if_pos c112] at H
                            have c112b0 : (t243 == t185) = true := beq_iff_eq.mpr c112
                            have c112b1 : (t243 != t185) = false := bne_eq_false_iff_eq.mpr c112
                            clear c112
                            by_cases c113 : t248 = t219
                            ·rw [if_pos c113] at H
                             have c113b0 : (t248 == t219) = true := beq_iff_eq.mpr c113
                             have c113b1 : (t248 != t219) = false := bne_eq_false_iff_eq.mpr c113
                             clear c113
                             replace H := Option.bind_eq_some_iff.mp H
                             obtain ⟨t249, A1140, H⟩ := H
                             replace H : (if t249 = true then ((saronlaw06_works.f).bind fun t250 => (some t250)) else (some false)) = some r := H
                             have A114 := zh A1140
                             clear A1140
                             by_cases c115 : t249 = true
                             ·subst c115
                              have H1 : ((saronlaw06_works.f).bind fun t250 => (some t250)) = some r := by rw [if_pos rfl] at H; exact H
                              clear H
                              have H := H1
                              clear H1
                              replace H := Option.bind_eq_some_iff.mp H
                              obtain ⟨t250, A1160, H⟩ := H
                              replace H : (some t250) = some r := H
                              have A116 := zh A1160
                              clear A1160
                              obtain rfl := Option.some.inj H
                              try go_wp2
                              have n0_ := zh (Kd.V_drew HO_1.out)
                              have n1_ := zh (Kd.V_drew HO_15.out)
                              have n2_ := zh (blk_drew BK183.out)
                              have n3_ := zh (blk_drew BK184.out)
                              have n4_ := zh (below_drew1 HB.out)
                              clear HO_1 HO_15 BK183 BK184 HB
                              have HO_1 := n0_
                              have HO_15 := n1_
                              have BK183 := n2_
                              have BK184 := n3_
                              have HB := n4_
                              clear n0_ n1_ n2_ n3_ n4_
                              have p239 : 0 ≤ (t191 : Int) := of_decide_eq_true zs
                              have q239 : t191 < (l1.length : Int) := of_decide_eq_true zs
                              obtain ⟨ad239, A239_1, c239_1, e239, hx239_0, hx239_1, hl239_1, hi239_1⟩ := at_T60 (Kd.V_reads' HO_1.out).2.2 t191 p239 q239
                              obtain rfl : ad202 = ad239 := (by injection e239)
                              obtain ⟨ce239, hce239, hMe239, hcc239⟩ := Kd.V_get HO_1.out z60 t191 p239 (by first | exact q239 | exact of_decide_eq_true zs | (have e_ := (Kd.V_reads' HO_1.out).1; omega))
                              obtain ⟨ua239_1, uc239_1, rfl, ul239_1, ge239_1⟩ := k60_openF hMe239
                              have hv239_1 := hcc239 1 _ rfl
                              rw [add_field _ _ 1 (by omega)] at hv239_1
                              replace hv239_1 := Option.some.inj (hv239_1.symm.trans hx239_1)
                              injection hv239_1 with hva_ hvn_ hvc_
                              rw [hva_] at ge239_1
                              rw [hvc_] at ul239_1
                              have HL239_1 := zh (show Kd.V (Kd.int .i64) 3 _ w.heap.size _ _ ((rd_T60 l1 t191).f1) from Kd.V_mk ul239_1 ge239_1)
                              clear hva_ hvn_ hvc_ ge239_1 ul239_1 hcc239 hce239
                              have HR239_1 := zh hi239_1
                              have HC239_1 := zh hl239_1
                              clear hi239_1 hl239_1
                              replace p239 := eq_true p239
                              replace q239 := eq_true q239
                              refine start_ (n := 10) (S := fun w' => w'.cell? (ad202.add ((t191).toNat * 2)) = some (.int .i64 ((rd_T60 l1 t191).f0)) ∧ w'.cell? ⟨(ad202.add ((t191).toNat * 2)).block, (ad202.add ((t191).toNat * 2)).off + 1, none⟩ = some (.slice A239_1 ((rd_T60 l1 t191).f1).length c239_1)) (ds := []) (Array.replicate 10 false) zk rfl rfl ⟨hx239_0, hx239_1⟩ (fun hHeld => ?_)
                              refine with_tabW RegLos.tab24 RegLos.bits24 (fun HT_ HW_ => ?_)
                              clear hx239_0 hx239_1 HR239_1 hMe239
                              generalize wc.drew = wq at HO_1 HO_15 BK183 BK184 HB HL239_1 hHeld ⊢
                              have HQ0_ := zh hHeld.1
                              have HQ1_ := zh hHeld.2
                              have HS := zh (Since.refl HB.out)
                              have hOKf_ : Aside0 (∀ k_, wq.heap.size ≤ k_ → (fun k_ => (P1_ k_ ∨ w.heap.size ≤ k_) ∧ k_ ≠ gb183 ∧ k_ ≠ gb184) k_) := ⟨fun k_ hk => ⟨.inr (Nat.le_trans (below_size HB.out) hk), Kd.freshB BK183.out k_ hk, Kd.freshB BK184.out k_ hk⟩⟩
                              refine zu 1 ?_
                              refine zu 3 ?_
                              refine zu 4 ?_
                              refine zu 5 ?_
                              refine zt 6 ?_
                              refine join_ (σ := Value × Value × Value) 2 #[true, true, true, true, true, true, true, true, false, false] (fun s_ => [(177, s_.1), (179, s_.2.1), (184, s_.2.2)]) (fun s_ w' => (w'.cell? (ad202.add ((t191).toNat * 2)) = some (.int .i64 ((rd_T60 l1 t191).f0)) ∧ w'.cell? ⟨(ad202.add ((t191).toNat * 2)).block, (ad202.add ((t191).toNat * 2)).off + 1, none⟩ = some (.slice A239_1 ((rd_T60 l1 t191).f1).length c239_1)) ∧ Since w wq w' ∧ Kd.N k60 60 w' w.heap.size (fun k_ => (P1_ k_ ∨ w.heap.size ≤ k_) ∧ k_ ≠ gb183 ∧ k_ ≠ gb184) s_.2.1 y236 ∧ Kd.V k60 60 w' w.heap.size (fun k => ((fun k_ => (P1_ k_ ∨ w.heap.size ≤ k_) ∧ k_ ≠ gb183 ∧ k_ ≠ gb184) k ∧ k < wq.heap.size) ∨ (wq.heap.size ≤ k ∧ some k ≠ s_.2.1.ownBlock)) s_.2.2 [(⟨(rd_T60 l1 t191).f0, (rd_T60 l1 t191).f1⟩ : S60)] ∧ (∀ k, s_.2.1.ownBlock = some k → wq.heap.size ≤ k)) ?_ ?_
                              rotate_left
                              ·intro hCont
                               refine two_ (i := 0) (j := 7) (Ni := some 177) (Nj := some 184) #[true, true, false, true, true, true, true, false, false, false] #[false, true, false, true, true, true, true, true, false, false] rfl rfl rfl rfl (two_of HT_.out zk) (by decide) (by decide) (fun K hK => ?_) (fun K hK => ?_)
                               ·skip
                                refine Kd.N_lit_step k60 (w0 := w) w.heap.size 60 ?hg (N' := 177) ?hd (xs := ([] : List (S60))) (inner := []) (ok := (fun k_ => (P1_ k_ ∨ w.heap.size ≤ k_) ∧ k_ ≠ gb183 ∧ k_ ≠ gb184)) (okp := (fun k_ => (P1_ k_ ∨ w.heap.size ≤ k_) ∧ k_ ≠ gb183 ∧ k_ ≠ gb184)) ?hr ?hp (fun _ hk => hk) (hOKf_.out _ HS.out.size) HS.out.below (below_size HS.out.below) (by simp) ?_; (case hd => rfl); (case hg => rfl); (case hr => first | (go_simp; done) | (go_simp; rfl)); (case hp => exact (Reps.none _ _))
                                intro v234 x1 ho hb hg hn
                                rw [← Ny233.out] at ho
                                have mA_ := zh ho
                                have mO_ := zh (own_new HS.out.size hn)
                                have mS_ := zh (HS.out.step hb hg (fun k e => by cases e))
                                clear HS
                                have HA := mA_
                                have HAo := mO_
                                have HS := mS_
                                clear mA_ mO_ mS_ ho hb hg hn
                                refine hK.out _ _ ⟨HS.out.cell HQ0_.out, HS.out.cell HQ1_.out⟩ (fun hHeld => ?_)
                                clear hK K
                                refine zr 177 _ ?_
                                refine two_ (i := 2) (j := 7) (Ni := some 179) (Nj := some 184) #[true, true, true, true, true, true, true, false, false, false] #[true, true, false, true, true, true, true, true, false, false] rfl rfl rfl rfl (two_of HT_.out zk) (by decide) (by decide) (fun K hK => ?_) (fun K hK => ?_)
                                ·skip
                                 refine Kd.N_append_rows_step k60 (w0 := w) w.heap.size (by rfl) (.tmp 177) (.tmp 178) 33 60 (.agg #[(.int .i64 0), (.slice none 0 0)]) 32 rfl Tryd.underlying33 info60 rfl (by decide) (by omega) v234 y233 l1 _ _ _ (fun k_ => (P1_ k_ ∨ w.heap.size ≤ k_) ∧ k_ ≠ gb183 ∧ k_ ≠ gb184) (fun k_ => ((P1_ k_ ∨ w.heap.size ≤ k_) ∧ k_ ≠ gb183 ∧ k_ ≠ gb184) ∧ k_ < wq.heap.size) rfl rfl HA.out (Kd.V_F (HS.out.V HO_1.out)) (fun k hk => ⟨hk.1, fun e => by have := HAo.out k e.symm; have := hk.2; omega⟩) (fun k hk => hOKf_.out k (Nat.le_trans HS.out.size hk)) HS.out.below (below_size HS.out.below) (by have := LMc105.out; omega) ?_
                                 intro v237 x2 ho hb hg hat
                                 rw [← Ny236.out] at ho
                                 have mA_ := zh ho
                                 have mO_ := zh (own_grown HS.out.size HAo.out hat)
                                 have mS_ := zh (HS.out.step hb hg HAo.out)
                                 clear HA HAo HS
                                 have HA := mA_
                                 have HAo := mO_
                                 have HS := mS_
                                 clear mA_ mO_ mS_ ho hb hg hat
                                 refine hK.out _ _ ⟨HS.out.cell HQ0_.out, HS.out.cell HQ1_.out⟩ (fun hHeld => ?_)
                                 clear hK K
                                 refine zr 179 _ ?_
                                 refine zo 7 (fun K hK => ?_)
                                 refine Kd.N_lit_step k60 (w0 := w) w.heap.size 60 ?hg (N' := 184) ?hd (xs := [(⟨(rd_T60 l1 t191).f0, (rd_T60 l1 t191).f1⟩ : S60)]) (inner := [.int .i64 ((rd_T60 l1 t191).f0), .slice A239_1 ((rd_T60 l1 t191).f1).length c239_1]) (ok := fun k_ => ((fun k_ => (P1_ k_ ∨ w.heap.size ≤ k_) ∧ k_ ≠ gb183 ∧ k_ ≠ gb184) k_ ∧ k_ < wq.heap.size) ∨ x2.heap.size ≤ k_) (okp := (fun k_ => ((P1_ k_ ∨ w.heap.size ≤ k_) ∧ k_ ≠ gb183 ∧ k_ ≠ gb184) ∧ k_ < wq.heap.size)) ?hr ?hp (fun _ hk => .inl hk) (.inr (Nat.le_refl _)) HS.out.below (below_size HS.out.below) (by simp) ?_; (case hd => rfl); (case hg => rfl); (case hr => first | (go_simp; done) | (go_simp; rfl)); (case hp => exact (Reps.c2 (show Kd.FK k60 _ _ (⟨(rd_T60 l1 t191).f0, (rd_T60 l1 t191).f1⟩ : S60) [.int .i64 ((rd_T60 l1 t191).f0), .slice A239_1 ((rd_T60 l1 t191).f1).length c239_1] from k60_mkF _ _ (⟨(rd_T60 l1 t191).f0, (rd_T60 l1 t191).f1⟩ : S60) HC239_1.out (Kd.V_F (HS.out.V HL239_1.out))) (Reps.none _ _)))
                                 intro vL x3 ho hb hg hn
                                 have mL_ := zh (Lit.mk' (OK := (fun k_ => (P1_ k_ ∨ w.heap.size ≤ k_) ∧ k_ ≠ gb183 ∧ k_ ≠ gb184)) ho HS.out.size)
                                 have mS_ := zh (HS.out.step hb hg (fun k e => by cases e))
                                 have mP_ : Aside0 (∀ k, (v237 : Value).ownBlock = some k → k < x2.heap.size ∨ x3.heap.size ≤ k) := ⟨fun k e => .inl (Kd.N_lt HA.out k e)⟩
                                 have mA_ := zh (N_quiet HA.out hg)
                                 clear HS HA
                                 have HL := mL_
                                 have HS := mS_
                                 have HAp := mP_
                                 have HA := mA_
                                 clear mL_ mS_ mP_ mA_ ho hb hg hn
                                 refine hK.out _ _ ⟨HS.out.cell HQ0_.out, HS.out.cell HQ1_.out⟩ (fun hHeld => ?_)
                                 clear hK K
                                 refine zr 184 _ ?_
                                 exact norm_ dLo2 (hCont (v234, v237, vL) _ ⟨hHeld, HS.out, HA.out, HL.out.told HAp.out, HAo.out⟩)
                                ·skip
                                 refine Kd.N_lit_step k60 (w0 := w) w.heap.size 60 ?hg (N' := 184) ?hd (xs := [(⟨(rd_T60 l1 t191).f0, (rd_T60 l1 t191).f1⟩ : S60)]) (inner := [.int .i64 ((rd_T60 l1 t191).f0), .slice A239_1 ((rd_T60 l1 t191).f1).length c239_1]) (ok := fun k_ => ((fun k_ => (P1_ k_ ∨ w.heap.size ≤ k_) ∧ k_ ≠ gb183 ∧ k_ ≠ gb184) k_ ∧ k_ < wq.heap.size) ∨ x1.heap.size ≤ k_) (okp := (fun k_ => ((P1_ k_ ∨ w.heap.size ≤ k_) ∧ k_ ≠ gb183 ∧ k_ ≠ gb184) ∧ k_ < wq.heap.size)) ?hr ?hp (fun _ hk => .inl hk) (.inr (Nat.le_refl _)) HS.out.below (below_size HS.out.below) (by simp) ?_; (case hd => rfl); (case hg => rfl); (case hr => first | (go_simp; done) | (go_simp; rfl)); (case hp => exact (Reps.c2 (show Kd.FK k60 _ _ (⟨(rd_T60 l1 t191).f0, (rd_T60 l1 t191).f1⟩ : S60) [.int .i64 ((rd_T60 l1 t191).f0), .slice A239_1 ((rd_T60 l1 t191).f1).length c239_1] from k60_mkF _ _ (⟨(rd_T60 l1 t191).f0, (rd_T60 l1 t191).f1⟩ : S60) HC239_1.out (Kd.V_F (HS.out.V HL239_1.out))) (Reps.none _ _)))
                                 intro vL x2 ho hb hg hn
                                 have mL_ := zh (Lit.mk' (OK := (fun k_ => (P1_ k_ ∨ w.heap.size ≤ k_) ∧ k_ ≠ gb183 ∧ k_ ≠ gb184)) ho HS.out.size)
                                 have mS_ := zh (HS.out.step hb hg (fun k e => by cases e))
                                 have mP_ : Aside0 (∀ k, (v234 : Value).ownBlock = some k → k < x1.heap.size ∨ x2.heap.size ≤ k) := ⟨fun k e => .inl (Kd.N_lt HA.out k e)⟩
                                 have mA_ := zh (N_quiet HA.out hg)
                                 clear HS HA
                                 have HL := mL_
                                 have HS := mS_
                                 have HAp := mP_
                                 have HA := mA_
                                 clear mL_ mS_ mP_ mA_ ho hb hg hn
                                 refine hK.out _ _ ⟨HS.out.cell HQ0_.out, HS.out.cell HQ1_.out⟩ (fun hHeld => ?_)
                                 clear hK K
                                 refine zr 184 _ ?_
                                 refine zo 2 (fun K hK => ?_)
                                 refine Kd.N_append_rows_step k60 (w0 := w) w.heap.size (by rfl) (.tmp 177) (.tmp 178) 33 60 (.agg #[(.int .i64 0), (.slice none 0 0)]) 32 rfl Tryd.underlying33 info60 rfl (by decide) (by omega) v234 y233 l1 _ _ _ (fun k_ => (P1_ k_ ∨ w.heap.size ≤ k_) ∧ k_ ≠ gb183 ∧ k_ ≠ gb184) (fun k_ => ((P1_ k_ ∨ w.heap.size ≤ k_) ∧ k_ ≠ gb183 ∧ k_ ≠ gb184) ∧ k_ < wq.heap.size) rfl rfl HA.out (Kd.V_F (HS.out.V HO_1.out)) (fun k hk => ⟨hk.1, fun e => by have := HAo.out k e.symm; have := hk.2; omega⟩) (fun k hk => hOKf_.out k (Nat.le_trans HS.out.size hk)) HS.out.below (below_size HS.out.below) (by have := LMc105.out; omega) ?_
                                 intro v237 x3 ho hb hg hat
                                 rw [← Ny236.out] at ho
                                 have mA_ := zh ho
                                 have mO_ := zh (own_grown HS.out.size HAo.out hat)
                                 have mS_ := zh (HS.out.step hb hg HAo.out)
                                 have mP_ := zh (apart_grown HL.out.hi_le HAp.out hat)
                                 have mL_ := zh (HL.out.step hg (fun k e => ⟨HAo.out k e, HAp.out k e⟩))
                                 clear HA HAo HS HAp HL
                                 have HA := mA_
                                 have HAo := mO_
                                 have HS := mS_
                                 have HAp := mP_
                                 have HL := mL_
                                 clear mA_ mO_ mS_ mP_ mL_ ho hb hg hat
                                 refine hK.out _ _ ⟨HS.out.cell HQ0_.out, HS.out.cell HQ1_.out⟩ (fun hHeld => ?_)
                                 clear hK K
                                 refine zr 179 _ ?_
                                 exact norm_ dLo2 (hCont (v234, v237, vL) _ ⟨hHeld, HS.out, HA.out, HL.out.told HAp.out, HAo.out⟩)
                               ·skip
                                refine Kd.N_lit_step k60 (w0 := w) w.heap.size 60 ?hg (N' := 184) ?hd (xs := [(⟨(rd_T60 l1 t191).f0, (rd_T60 l1 t191).f1⟩ : S60)]) (inner := [.int .i64 ((rd_T60 l1 t191).f0), .slice A239_1 ((rd_T60 l1 t191).f1).length c239_1]) (ok := fun k_ => ((fun k_ => (P1_ k_ ∨ w.heap.size ≤ k_) ∧ k_ ≠ gb183 ∧ k_ ≠ gb184) k_ ∧ k_ < wq.heap.size) ∨ wq.heap.size ≤ k_) (okp := (fun k_ => ((P1_ k_ ∨ w.heap.size ≤ k_) ∧ k_ ≠ gb183 ∧ k_ ≠ gb184) ∧ k_ < wq.heap.size)) ?hr ?hp (fun _ hk => .inl hk) (.inr (Nat.le_refl _)) HS.out.below (below_size HS.out.below) (by simp) ?_; (case hd => rfl); (case hg => rfl); (case hr => first | (go_simp; done) | (go_simp; rfl)); (case hp => exact (Reps.c2 (show Kd.FK k60 _ _ (⟨(rd_T60 l1 t191).f0, (rd_T60 l1 t191).f1⟩ : S60) [.int .i64 ((rd_T60 l1 t191).f0), .slice A239_1 ((rd_T60 l1 t191).f1).length c239_1] from k60_mkF _ _ (⟨(rd_T60 l1 t191).f0, (rd_T60 l1 t191).f1⟩ : S60) HC239_1.out (Kd.V_F (HS.out.V HL239_1.out))) (Reps.none _ _)))
                                intro vL x1 ho hb hg hn
                                have mL_ := zh (Lit.mk' (OK := (fun k_ => (P1_ k_ ∨ w.heap.size ≤ k_) ∧ k_ ≠ gb183 ∧ k_ ≠ gb184)) ho HS.out.size)
                                have mS_ := zh (HS.out.step hb hg (fun k e => by cases e))
                                clear HS
                                have HL := mL_
                                have HS := mS_
                                clear mL_ mS_ ho hb hg hn
                                refine hK.out _ _ ⟨HS.out.cell HQ0_.out, HS.out.cell HQ1_.out⟩ (fun hHeld => ?_)
                                clear hK K
                                refine zr 184 _ ?_
                                refine zo 0 (fun K hK => ?_)
                                refine Kd.N_lit_step k60 (w0 := w) w.heap.size 60 ?hg (N' := 177) ?hd (xs := ([] : List (S60))) (inner := []) (ok := (fun k_ => (P1_ k_ ∨ w.heap.size ≤ k_) ∧ k_ ≠ gb183 ∧ k_ ≠ gb184)) (okp := (fun k_ => (P1_ k_ ∨ w.heap.size ≤ k_) ∧ k_ ≠ gb183 ∧ k_ ≠ gb184)) ?hr ?hp (fun _ hk => hk) (hOKf_.out _ HS.out.size) HS.out.below (below_size HS.out.below) (by simp) ?_; (case hd => rfl); (case hg => rfl); (case hr => first | (go_simp; done) | (go_simp; rfl)); (case hp => exact (Reps.none _ _))
                                intro v234 x2 ho hb hg hn
                                rw [← Ny233.out] at ho
                                have mA_ := zh ho
                                have mO_ := zh (own_new HS.out.size hn)
                                have mS_ := zh (HS.out.step hb hg (fun k e => by cases e))
                                have mP_ := zh (apart_new (lo := wq.heap.size) HL.out.hi_le hn)
                                have mL_ := zh (HL.out.step hg (fun k e => by cases e))
                                clear HS HL
                                have HA := mA_
                                have HAo := mO_
                                have HS := mS_
                                have HAp := mP_
                                have HL := mL_
                                clear mA_ mO_ mS_ mP_ mL_ ho hb hg hn
                                refine hK.out _ _ ⟨HS.out.cell HQ0_.out, HS.out.cell HQ1_.out⟩ (fun hHeld => ?_)
                                clear hK K
                                refine zr 177 _ ?_
                                refine zo 2 (fun K hK => ?_)
                                refine Kd.N_append_rows_step k60 (w0 := w) w.heap.size (by rfl) (.tmp 177) (.tmp 178) 33 60 (.agg #[(.int .i64 0), (.slice none 0 0)]) 32 rfl Tryd.underlying33 info60 rfl (by decide) (by omega) v234 y233 l1 _ _ _ (fun k_ => (P1_ k_ ∨ w.heap.size ≤ k_) ∧ k_ ≠ gb183 ∧ k_ ≠ gb184) (fun k_ => ((P1_ k_ ∨ w.heap.size ≤ k_) ∧ k_ ≠ gb183 ∧ k_ ≠ gb184) ∧ k_ < wq.heap.size) rfl rfl HA.out (Kd.V_F (HS.out.V HO_1.out)) (fun k hk => ⟨hk.1, fun e => by have := HAo.out k e.symm; have := hk.2; omega⟩) (fun k hk => hOKf_.out k (Nat.le_trans HS.out.size hk)) HS.out.below (below_size HS.out.below) (by have := LMc105.out; omega) ?_
                                intro v237 x3 ho hb hg hat
                                rw [← Ny236.out] at ho
                                have mA_ := zh ho
                                have mO_ := zh (own_grown HS.out.size HAo.out hat)
                                have mS_ := zh (HS.out.step hb hg HAo.out)
                                have mP_ := zh (apart_grown HL.out.hi_le HAp.out hat)
                                have mL_ := zh (HL.out.step hg (fun k e => ⟨HAo.out k e, HAp.out k e⟩))
                                clear HA HAo HS HAp HL
                                have HA := mA_
                                have HAo := mO_
                                have HS := mS_
                                have HAp := mP_
                                have HL := mL_
                                clear mA_ mO_ mS_ mP_ mL_ ho hb hg hat
                                refine hK.out _ _ ⟨HS.out.cell HQ0_.out, HS.out.cell HQ1_.out⟩ (fun hHeld => ?_)
                                clear hK K
                                refine zr 179 _ ?_
                                exact norm_ dLo2 (hCont (v234, v237, vL) _ ⟨hHeld, HS.out, HA.out, HL.out.told HAp.out, HAo.out⟩)
                              rintro ⟨v234, v237, vL⟩ x9 ⟨hS_, hs_, hn_, hl_, ho_⟩
                              clear HS
                              have HS := zh hs_
                              have HA := zh hn_
                              have HL := zh hl_
                              have HAo := zh ho_
                              clear hs_ hn_ hl_ ho_
                              have hHeld := hS_
                              obtain ⟨AL, cL, eL⟩ := Kd.V_slice HL.out
                              have eL' : vL = .slice AL 1 cL := eL
                              clear eL
                              subst eL'
                              refine norm_ (a' := ?_) ?_ ?_
                              rotate_left
                              ·simp only [putAll, Act.put, List.setIfInBounds_toArray, List.set_cons_zero, List.set_cons_succ]
                               rfl
                              refine zo 8 (fun K hK => ?_)
                              refine Kd.N_append_rows_step k60 (w0 := w) w.heap.size (by rfl) (.tmp 179) (.tmp 184) 33 60 (.agg #[(.int .i64 0), (.slice none 0 0)]) 32 rfl Tryd.underlying33 info60 rfl (by decide) (by omega) v237 y236 [(⟨(rd_T60 l1 t191).f0, (rd_T60 l1 t191).f1⟩ : S60)] AL 1 cL (fun k_ => (P1_ k_ ∨ w.heap.size ≤ k_) ∧ k_ ≠ gb183 ∧ k_ ≠ gb184) (fun k => ((fun k_ => (P1_ k_ ∨ w.heap.size ≤ k_) ∧ k_ ≠ gb183 ∧ k_ ≠ gb184) k ∧ k < wq.heap.size) ∨ (wq.heap.size ≤ k ∧ some k ≠ v237.ownBlock)) rfl rfl HA.out (Kd.V_F HL.out) (fun k hk => hk.elim (fun g => ⟨g.1, fun e => by have := HAo.out k e.symm; have := g.2; omega⟩) (fun g => ⟨hOKf_.out k g.1, g.2⟩)) (fun k hk => hOKf_.out k (Nat.le_trans HS.out.size hk)) HS.out.below (below_size HS.out.below) (by have := LMc108.out; omega) ?_
                              intro v241 w120 ho hb hg hat
                              rw [← Ny240.out] at ho
                              have mO_ := zh (own_grown HS.out.size HAo.out hat)
                              have mS_ := zh (HS.out.step hb hg HAo.out)
                              have n0_ := zh (Kd.V_mono (ok' := fun k_ => ((P1_ k_ ∨ w.heap.size ≤ k_) ∧ k_ ≠ gb183 ∧ k_ ≠ gb184) ∧ some k_ ≠ (v241 : Value).ownBlock) (mS_.out.V HO_1.out) (fun k hk => ⟨hk.1, fun e => by have := mO_.out k e.symm; have := hk.2; omega⟩))
                              have n1_ := zh (Kd.V_mono (ok' := fun k_ => ((P1_ k_ ∨ w.heap.size ≤ k_) ∧ k_ ≠ gb183 ∧ k_ ≠ gb184) ∧ some k_ ≠ (v241 : Value).ownBlock) (mS_.out.V HO_15.out) (fun k hk => ⟨hk.1, fun e => by have := mO_.out k e.symm; have := hk.2; omega⟩))
                              have n4_ := zh (Kd.V_mono (ok' := fun k_ => ((P1_ k_ ∨ w.heap.size ≤ k_) ∧ k_ ≠ gb183 ∧ k_ ≠ gb184) ∧ some k_ ≠ (v241 : Value).ownBlock) (mS_.out.V HL239_1.out) (fun k hk => ⟨hk.1, fun e => by have := mO_.out k e.symm; have := hk.2; omega⟩))
                              have n2_ := zh (mS_.out.blk BK183.out)
                              have n3_ := zh (mS_.out.blk BK184.out)
                              have n5_ := zh hb
                              have n6_ := zh ho
                              clear HO_1 HO_15 BK183 BK184 HL239_1 HB
                              have HO_1 := n0_
                              have HO_15 := n1_
                              have BK183 := n2_
                              have BK184 := n3_
                              have HL239_1 := n4_
                              have HB := n5_
                              have HO242 := n6_
                              clear n0_ n1_ n2_ n3_ n4_ n5_ n6_ ho hb hg hat
                              refine hK.out _ _ ⟨mS_.out.cell HQ0_.out, mS_.out.cell HQ1_.out⟩ (fun hHeld => ?_)
                              clear hK K HS HA HL HAo mO_ mS_ HQ0_ HQ1_ hOKf_ hS_
                              refine zr 185 _ ?_
                              refine zu 9 ?_
                              refine zd ?_
                              have hnb121 := NB183_184.out
                              have hnc121 := NB184_183.out
                              have hcz122_0 : w120.cell? ⟨gb183, 0, none⟩ = some (.int .i64 a0_0) := vb BK183 0
                              have hcz122_1 : w120.cell? ⟨gb183, 1, none⟩ = some (.int .i64 a0_1) := vb BK183 1
                              have hcz122_2 : w120.cell? ⟨gb183, 2, none⟩ = some (.int .i64 a0_2) := vb BK183 2
                              have hcz122_3 : w120.cell? ⟨gb183, 3, none⟩ = some (.slice A0_3 l0_3.length c0_3) := vb BK183 3
                              have hfz122_0 := blk_frozen BK183.out 0
                              have hfz122_1 := blk_frozen BK183.out 1
                              have hfz122_2 := blk_frozen BK183.out 2
                              have hfz122_3 := blk_frozen BK183.out 3
                              obtain ⟨Ao123, co123, eo123⟩ := Kd.N_slice HO242.out
                              subst eo123
                              go_wp2_with (first | ((with_reducible refine gate_callee (f := 22) rfl ?_); refine goesL_ (some 189) rfl rfl Tryd.func22 zk rfl #[.agg #[.int .i64 a0_0, .int .i64 a0_1, .int .i64 a0_2, .slice A0_3 l0_3.length c0_3], .slice Ao123 y240.length co123] rfl zm ?_; (with_reducible refine (kernel_Many.calls a0_0 a0_1 a0_2 _ _ l0_3 _ _ y240 t243 t244 _ ?side1 ?side2 ?side3 ?side4 ?side5 A109.out).mono ?_); (case side1 => repeat (first | exact (Kd.C_below HR0_3.out HB.out) | (with_reducible refine Kd.C_alloc ?_ _) | (with_reducible refine Kd.C_drewN ?_ _) | (with_reducible refine Kd.C_drew ?_))); (case side2 => exact HC0_3.out); (case side3 => repeat (first | exact (Kd.N_reads' HO242.out).2.2 | (with_reducible refine Kd.C_alloc ?_ _) | (with_reducible refine Kd.C_drewN ?_ _) | (with_reducible refine Kd.C_drew ?_))); (case side4 => exact (Kd.N_reads' HO242.out).2.1); (case side5 => exact Glob.below HG.out zb); rintro e w124 ⟨rfl, hb⟩; refine ⟨_, rfl, ?_⟩; have n0_ := zh (Kd.V_below (zV HO_1) hb); have n1_ := zh (Kd.V_below (zV HO_15) hb); have n2_ := zh (Kd.V_below dLo1 hb); have n3_ := zh (Kd.N_below (zN HO242) hb); have n4_ := zh (blk_below (g := gb183) (o := .cells #[.int .i64 a0_0, .int .i64 a0_1, .int .i64 a0_2, .slice A0_3 l0_3.length c0_3] 24 (0, 0)) (zc BK183) hb); have n5_ := zh (blk_below (g := gb184) (o := .cells #[.int .i64 a2_0, .int .i64 a2_1, .int .i64 a2_2] 67 (0, 0)) (zc BK184) hb); have n6_ := zh (below_step zb hb); clear HO_1; clear HO_15; clear HL239_1; clear HO242; clear BK183; clear BK184; clear HB; have HO_1 := n0_; have HO_15 := n1_; have HL239_1 := n2_; have HO242 := n3_; have BK183 := n4_; have BK184 := n5_; have HB := n6_; clear n0_ n1_ n2_ n3_ n4_ n5_ n6_; (try clear hb); (try clear hb2); (try clear hk); (try clear hi); have hcz125_0 : w124.cell? ⟨gb183, 0, none⟩ = some (.int .i64 a0_0) := vb BK183 0; have hcz125_1 : w124.cell? ⟨gb183, 1, none⟩ = some (.int .i64 a0_1) := vb BK183 1; have hcz125_2 : w124.cell? ⟨gb183, 2, none⟩ = some (.int .i64 a0_2) := vb BK183 2; have hcz125_3 : w124.cell? ⟨gb183, 3, none⟩ = some (.slice A0_3 l0_3.length c0_3) := vb BK183 3; have hfz125_0 := blk_frozen BK183.out 0; have hfz125_1 := blk_frozen BK183.out 1; have hfz125_2 := blk_frozen BK183.out 2; have hfz125_3 := blk_frozen BK183.out 3) | ((with_reducible refine gate_callee (f := 24) rfl ?_); refine goesL_ (some 196) rfl rfl Tryd.func24 zk rfl #[.agg #[.int .i64 a0_0, .int .i64 a0_1, .int .i64 a0_2, .slice A0_3 l0_3.length c0_3], .slice Ao123 y240.length co123, .int .i64 t192] rfl zm ?_; (with_reducible refine (kernel_Can.calls a0_0 a0_1 a0_2 _ _ l0_3 _ _ y240 t192 t245 t248 _ ?side1 ?side2 ?side3 ?side4 ?side5 A110.out).mono ?_); (case side1 => repeat (first | exact (Kd.C_below HR0_3.out HB.out) | (with_reducible refine Kd.C_alloc ?_ _) | (with_reducible refine Kd.C_drewN ?_ _) | (with_reducible refine Kd.C_drew ?_))); (case side2 => exact HC0_3.out); (case side3 => repeat (first | exact (Kd.N_reads' HO242.out).2.2 | (with_reducible refine Kd.C_alloc ?_ _) | (with_reducible refine Kd.C_drewN ?_ _) | (with_reducible refine Kd.C_drew ?_))); (case side4 => exact (Kd.N_reads' HO242.out).2.1); (case side5 => exact Glob.below HG.out zb); rintro e w126 ⟨v246, rfl, ho0, hb⟩; refine ⟨_, rfl, ?_⟩; have n0_ := zh (Kd.V_below (zV HO_1) hb); have n1_ := zh (Kd.V_below (zV HO_15) hb); have n2_ := zh (Kd.V_below dLo1 hb); have n3_ := zh (Kd.N_below (zN HO242) hb); have n4_ := zh (Kd.V_lower (Kd.V_mono (ok' := fun k_ => (P1_ k_ ∨ w.heap.size ≤ k_) ∧ some k_ ≠ (.slice Ao123 y240.length co123 : Value).ownBlock ∧ k_ ≠ gb183 ∧ k_ ≠ gb184) ho0 (fun k_ hk_ => ⟨(.inr (Nat.le_trans (below_size zb) hk_)), (Kd.fresh' (Kd.N_lt (zN HO242)) k_ hk_), (Kd.freshB (g := gb183) (o := .cells #[.int .i64 a0_0, .int .i64 a0_1, .int .i64 a0_2, .slice A0_3 l0_3.length c0_3] 24 (0, 0)) (zc BK183) k_ hk_), (Kd.freshB (g := gb184) (o := .cells #[.int .i64 a2_0, .int .i64 a2_1, .int .i64 a2_2] 67 (0, 0)) (zc BK184) k_ hk_)⟩)) (below_size zb)); have n5_ := zh (blk_below (g := gb183) (o := .cells #[.int .i64 a0_0, .int .i64 a0_1, .int .i64 a0_2, .slice A0_3 l0_3.length c0_3] 24 (0, 0)) (zc BK183) hb); have n6_ := zh (blk_below (g := gb184) (o := .cells #[.int .i64 a2_0, .int .i64 a2_1, .int .i64 a2_2] 67 (0, 0)) (zc BK184) hb); have n7_ := zh (below_step zb hb); clear HO_1; clear HO_15; clear HL239_1; clear HO242; clear BK183; clear BK184; clear HB; have HO_1 := n0_; have HO_15 := n1_; have HL239_1 := n2_; have HO242 := n3_; have HO247 := n4_; have BK183 := n5_; have BK184 := n6_; have HB := n7_; clear n0_ n1_ n2_ n3_ n4_ n5_ n6_ n7_; (try clear hb); (try clear hb2); (try clear hk); (try clear hi); (try clear ho0); obtain ⟨Ao127, co127, eo127⟩ := Kd.V_slice HO_15.out; subst eo127; obtain ⟨Ao128, co128, eo128⟩ := Kd.V_slice HO247.out; subst eo128) | (go_at_call 18; (with_reducible refine (saronref00_Equal.calls kj84 _ _ t216 _ _ t245 true _ ?side1 ?side2 ?side3 ?side4 A114.out).mono ?_); (case side1 => repeat (first | exact (Kd.V_reads' HO_15.out).2.2 | (with_reducible refine Kd.C_alloc ?_ _) | (with_reducible refine Kd.C_drewN ?_ _) | (with_reducible refine Kd.C_drew ?_))); (case side2 => exact (Kd.V_reads' HO_15.out).2.1); (case side3 => repeat (first | exact (Kd.V_reads' HO247.out).2.2 | (with_reducible refine Kd.C_alloc ?_ _) | (with_reducible refine Kd.C_drewN ?_ _) | (with_reducible refine Kd.C_drew ?_))); (case side4 => exact (Kd.V_reads' HO247.out).2.1); rintro e w' ⟨rfl, ⟨nd, rfl⟩⟩) | (go_at_call 21; (with_reducible refine (saronlaw06_works.calls  t250 _ ?side1 A116.out).mono ?_); (case side1 => exact Glob.below HG.out zb); rintro e w129 ⟨rfl, hb⟩; have n0_ := zh (Kd.V_below (zV HO_1) hb); have n1_ := zh (Kd.V_below (zV HO_15) hb); have n2_ := zh (Kd.V_below dLo1 hb); have n3_ := zh (Kd.N_below (zN HO242) hb); have n4_ := zh (Kd.V_below (zV HO247) hb); have n5_ := zh (blk_below (g := gb183) (o := .cells #[.int .i64 a0_0, .int .i64 a0_1, .int .i64 a0_2, .slice A0_3 l0_3.length c0_3] 24 (0, 0)) (zc BK183) hb); have n6_ := zh (blk_below (g := gb184) (o := .cells #[.int .i64 a2_0, .int .i64 a2_1, .int .i64 a2_2] 67 (0, 0)) (zc BK184) hb); have n7_ := zh (below_step zb hb); clear HO_1; clear HO_15; clear HL239_1; clear HO242; clear HO247; clear BK183; clear BK184; clear HB; have HO_1 := n0_; have HO_15 := n1_; have HL239_1 := n2_; have HO242 := n3_; have HO247 := n4_; have BK183 := n5_; have BK184 := n6_; have HB := n7_; clear n0_ n1_ n2_ n3_ n4_ n5_ n6_ n7_; (try clear hb); (try clear hb2); (try clear hk); (try clear hi)))
                              go_ret
                              exact ⟨zf, zb⟩
                             ·replace c115 := Bool.eq_false_iff.mpr c115
                              subst c115
                              have H1 : (some false) = some r := by rw [if_neg (show ¬ (false = true) by decide)] at H; exact H
                              clear H
                              have H := H1
                              clear H1
                              exact absurd ((Option.some.inj H).trans HRT.out) (by decide)
                            ·rw [if_neg c113] at H
                             have c113b0 : (t248 == t219) = false := beq_eq_false_iff_ne.mpr c113
                             have c113b1 : (t248 != t219) = true := bne_iff_ne.mpr c113
                             exact absurd ((Option.some.inj H).trans HRT.out) (by decide)
                           ·rw [if_neg c112] at H
                            have c112b0 : (t243 == t185) = false := beq_eq_false_iff_ne.mpr c112
                            have c112b1 : (t243 != t185) = true := bne_iff_ne.mpr c112
                            exact absurd ((Option.some.inj H).trans HRT.out) (by decide)
                          ·rw [if_neg c111] at H
                           have c111b0 : (t244 == 0) = false := beq_eq_false_iff_ne.mpr c111
                           have c111b1 : (t244 != 0) = true := bne_iff_ne.mpr c111
                           exact absurd ((Option.some.inj H).trans HRT.out) (by decide)
                         ·rw [if_neg c108] at H
                          exact absurd H (by simp)
                        ·rw [if_neg c107] at H
                         exact absurd H (by simp)
                       ·rw [if_neg c106] at H
                        exact absurd H (by simp)
                      ·rw [if_neg c105] at H
                       exact absurd H (by simp)
             ·rw [if_neg c49] at H
              exact absurd H (by simp)
            ·rw [if_neg c46] at H
             exact absurd H (by simp)
           ·rw [if_neg c45] at H
            exact absurd H (by simp)
         ·rw [if_neg c34] at H
          exact absurd H (by simp)
        ·rw [if_neg c33] at H
         exact absurd H (by simp)
       ·rw [if_neg c32] at H
        exact absurd H (by simp)
      ·rw [if_neg c31] at H
       exact absurd H (by simp)
     ·rw [if_neg c28] at H
      have c28b0 : (t186 == 0) = false := beq_eq_false_iff_ne.mpr c28
      have c28b1 : (t186 != 0) = true := bne_iff_ne.mpr c28
      by_cases c172 : t186 = 61
      ·rw [if_pos c172] at H
       have c172b0 : (t186 == 61) = true := beq_iff_eq.mpr c172
       have c172b1 : (t186 != 61) = false := bne_eq_false_iff_eq.mpr c172
       clear c172
       by_cases c173 : t185 = 0
       ·rw [if_pos c173] at H
        have c173b0 : (t185 == 0) = true := beq_iff_eq.mpr c173
        have c173b1 : (t185 != 0) = false := bne_eq_false_iff_eq.mpr c173
        clear c173
        replace H := Option.bind_eq_some_iff.mp H
        obtain ⟨t190, A1740, H⟩ := H
        replace H : (some t190) = some r := H
        have A174 := zh A1740
        clear A1740
        obtain rfl := Option.some.inj H
        go_wp2_with (first | (go_at_call 21; (with_reducible refine (saronlaw06_works.calls  t190 _ ?side1 A174.out).mono ?_); (case side1 => exact Glob.below HG.out zb); rintro e w175 ⟨rfl, hb⟩; have n0_ := zh (Kd.V_below (zV HO_1) hb); have n1_ := zh (blk_below (g := gb183) (o := .cells #[.int .i64 a0_0, .int .i64 a0_1, .int .i64 a0_2, .slice A0_3 l0_3.length c0_3] 24 (0, 0)) (zc BK183) hb); have n2_ := zh (blk_below (g := gb184) (o := .cells #[.int .i64 a2_0, .int .i64 a2_1, .int .i64 a2_2] 67 (0, 0)) (zc BK184) hb); have n3_ := zh (below_step zb hb); clear HO_1; clear BK183; clear BK184; clear HB; have HO_1 := n0_; have BK183 := n1_; have BK184 := n2_; have HB := n3_; clear n0_ n1_ n2_ n3_; (try clear hb); (try clear hb2); (try clear hk); (try clear hi)))
        go_ret
        exact ⟨zf, zb⟩
       ·rw [if_neg c173] at H
        have c173b0 : (t185 == 0) = false := beq_eq_false_iff_ne.mpr c173
        have c173b1 : (t185 != 0) = true := bne_iff_ne.mpr c173
        exact absurd ((Option.some.inj H).trans HRT.out) (by decide)
      ·rw [if_neg c172] at H
       have c172b0 : (t186 == 61) = false := beq_eq_false_iff_ne.mpr c172
       have c172b1 : (t186 != 61) = true := bne_iff_ne.mpr c172
       exact absurd ((Option.some.inj H).trans HRT.out) (by decide)
end Go.Proofs.YtagkfkdoibnhfaaDoor.H
end
section
namespace Go.Proofs.YtagkfkdoibnhfaaDoor.kernelLosing
open Go.ChangeShapes Go.WideShapes Go.ChangeAt Go.RowKit Go.Proofs.YtagkfkdoibnhfaaDoorW.PrintWords Go.Proofs.YtagkfkdoibnhfaaDoor.H Go.Proofs.YtagkfkdoibnhfaaDoor.K
set_option linter.unusedVariables false
theorem own : ownKnob Tryd.prog.godebug = none := by kernel_rfl
theorem laidOut : laidOutB Tryd.prog = true := by kernel_rfl
theorem door_met (os : Os) (args : Array Value) : laidMetH Tryd.prog laid1 ((World.doorLaid Tryd.prog 600 os).forCall (fun _ _ => 0) ⟨#[], args, []⟩).memory :=
 laidMetH_of_parts3 (fuel := 8) (laidMet_of_run' 8 zk zk) zk zk
set_option maxRecDepth 100000 in
set_option maxHeartbeats 2000000 in
theorem lifted (os : Os) (started : os.Started) (H : Type) (enc : TypeId × Value → H) :
  ReturnsInHanded {} Tryd.checked os 11 .any (fun w args => (Rows.kernelLosingSpec.pre enc Tryd.prog Tryd.f11 [] false w args ∧ laidMetH Tryd.prog laid1 w) ∧ sizedMet enc Tryd.prog Tryd.f11 (OpenSpec.ofChange Rows.kernelLosingSpec) false w args)
   (Rows.kernelLosingSpec.post enc Tryd.prog Tryd.f11 false true false false) := by
 refine returnsInHanded_of_change_and (C := Tryd.checked) (X := fun w _ => laidMetH Tryd.prog laid1 w) (fun _ _ _ hh h => h.of_heap hh) own started zk Tryd.func11
  (ChangeSpec.witness_shaped (enc := enc) (C := Tryd.checked) (os := os) (X := fun w _ => laidMetH Tryd.prog laid1 w) false (World.doorLaid Tryd.prog 600 os) #[.agg #[.int .i64 0, .int .i64 0, .int .i64 0, .slice none 0 0], .slice none 0 0, .agg #[.int .i64 0, .int .i64 0, .int .i64 0]] 8 rfl (World.shaped_of_RefB zk zk) zk zk zk (door_met os _)) ?_
 intro W base args ds gs before hval0 hW _ _ hL _
 have hval : ∀ (j : Nat) t v, Tryd.f11.params[j]? = some t → args[j]? = some v → Value.okWide Tryd.prog W .any base t v := hval0
 have hW' := hW
 obtain ⟨p, q, hA0, hV, rfl, hfz, hnd⟩ := hW
 have hA : DataW.TrodAll enc Tryd.prog W 0 (fun _ => true) true Tryd.f11.params.toList args.toList ds p := hA0
 rw [Tryd.params11] at hA hval
 obtain ⟨v0, vs0, d0, ds0, p0, q0, hargs, rfl, rfl, h0, r0⟩ := trodAll_cons hA
 obtain ⟨v1, vs1, d1, ds1, p1, q1, rfl, rfl, rfl, h1, r1⟩ := trodAll_cons r0
 obtain ⟨v2, vs2, d2, ds2, p2, q2, rfl, rfl, rfl, h2, r2⟩ := trodAll_cons r1
 obtain ⟨rfl, rfl, rfl⟩ := trodAll_nil r2
 obtain rfl : args = #[v0, v1, v2] := by cases args; simp_all
 obtain ⟨rfl, rfl⟩ := trodVars_none hV
 have k0 := h0
 have lt0 : ∀ x ∈ p0, x.block < W.heap.size := by obtain ⟨m, hm⟩ := k0; exact DataW.trod_lt m _ _ _ hm
 obtain ⟨T0, O0, L0, A0, R0, c0, rfl, hc0, hC0, iT0, iO0, iL0, sR0, iR0⟩ := arg_scale (hval 0 24 v0 rfl rfl) h0
 have k1 := h1
 have lt1 : ∀ x ∈ p1, x.block < W.heap.size := by obtain ⟨m, hm⟩ := k1; exact DataW.trod_lt m _ _ _ hm
 obtain ⟨A1, l1, c1, rfl, hc1, hC1, s1, i1⟩ := arg_heard (hval 1 33 v1 rfl rfl) h1
 have k2 := h2
 have lt2 : ∀ x ∈ p2, x.block < W.heap.size := by obtain ⟨m, hm⟩ := k2; exact DataW.trod_lt m _ _ _ hm
 obtain ⟨x2, y2, z2, rfl, ix2, iy2, iz2⟩ := arg_three (hval 2 67 v2 rfl rfl) h2
 clear hA0 hval0
 have hG := glob_of_laid hL
 refine (saronlaw06_KernelLosing.calls (2 * R0.length + 1000) T0 O0 L0 A0 c0 R0 (fun _ => True) A1 c1 l1 x2 y2 z2 true W hC0 hc0 (view60 hC1 hc1) hG rfl (K.O.losing_law T0 O0 L0 R0 l1 x2 y2 z2 sR0 _ (Nat.le_refl _))).mono fun e W' ⟨he, bel⟩ => ?_
 subst he
 exact ⟨_, rfl, _, _, _, [], _, [], hW', trodAll_mk1 (shut_bool Tryd.underlying4 _), (trodAll_cons_mk (Below.trod laidOut zk (of_decide_eq_true zk) k0 bel lt0) (trodAll_cons_mk (Below.trod laidOut zk (of_decide_eq_true zk) k1 bel lt1) (trodAll_cons_mk (Below.trod laidOut zk (of_decide_eq_true zk) k2 bel lt2) trodAll_mk0))), rfl, bel.frame _, fun h => by cases h⟩
theorem over : Rows.kernelLosingRow.holds Tryd.pinned (OpenSpec.ofChange Rows.kernelLosingSpec) :=
 OpenClaim.holds_of_wide 11 Tryd.f11 rfl rfl rfl rfl rfl rfl rfl ⟨rfl, rfl, rfl, rfl, rfl⟩ rfl rfl rfl rfl rfl zk Tryd.func11 zk
  (of_decide_eq_true zk) (by unfold Func.isWrapper; first | (rw [if_pos (by decide +kernel)]; kernel_rfl) | (rw [if_neg (by decide +kernel)]; exact ⟨rfl, rfl⟩))
  (fun os started H enc _ => lifted os started H enc)
theorem proved : Rows.KernelLosingCardSaid :=
 Claim7.holds_tied_plain_at .later [] [.funcs] true (true, "1546f209dbcbef264cbb20aea537f6d5569935ba401e115858a8843598e79524") false
  over (fun _ h => by cases h) zk (fun _ h => by cases h) kernelLosing_row_tie rfl ⟨rfl, rfl⟩ zk rfl
  (fun f fn hf hfn => by
   obtain rfl : f = 11 := Option.some.inj ((show Tryd.prog.funcNamed "saron/saronlaw06.KernelLosing" = some 11 by kernel_rfl).symm.trans hf) |>.symm
   obtain rfl : fn = Tryd.f11 := (Option.some.inj (Tryd.func11.symm.trans hfn)).symm
   exact ⟨by kernel_rfl, fun j t ht => by
    rw [Tryd.params11] at ht
    have hm : t ∈ [24, 33, 67] := by simpa using Array.mem_of_getElem? ht
    have hall : ([24, 33, 67].all fun u => !Tryd.prog.wantsStandIn u) = true := by kernel_rfl
    exact (show Tryd.prog.wantsStandIn t = false by simpa using List.all_eq_true.1 hall t hm)⟩)
  zk
end Go.Proofs.YtagkfkdoibnhfaaDoor.kernelLosing
namespace Go.Proofs.YtagkfkdoibnhfaaDoor
theorem kernelLosing_card : Rows.KernelLosingCardSaid := kernelLosing.proved
end Go.Proofs.YtagkfkdoibnhfaaDoor
end
