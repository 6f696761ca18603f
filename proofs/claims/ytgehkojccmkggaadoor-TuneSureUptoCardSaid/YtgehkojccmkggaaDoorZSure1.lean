/- TuneSure, its second form: for every set, and any numbers that choose the pitches, of bulk at most 1,048,576, the law returns true, and each argument reads afterwards as it read before. Condition: when the call begins the package's table of asks reads as the program's text lays it; the card ties that to the text. -/
import Derived.ArgAppend
import Derived.Below
import Derived.BigQuiet
import Derived.Deep.AppendLies
import Derived.Deep.CutBlock
import Derived.Deep.DeepCutAuto
import Derived.Deep.DeepHandedRow
import Derived.Deep.Draws
import Derived.Deep.LoopGhost
import Derived.Deep.OwnRows
import Derived.Deep.QuietTactic
import Derived.Deep.RegionHeld3
import Derived.JoinedCond
import Derived.KernelRfl
import Derived.LaidMore
import Derived.Laws.BytesArg
import Derived.Laws.IdiomCopy
import Derived.Laws.MakeOwn
import Derived.Laws.OwnMore
import Derived.Laws.Rows
import Derived.Laws.Slices
import Derived.Lib.AppendStr
import Derived.Lib.ConvBytes
import Derived.Lib.LaidTab
import Derived.Maps.AppendAt
import Derived.OpenShut
import Derived.OwnWalk
import Derived.ProofKit
import Derived.RowKit
import Derived.RowKit3
import Derived.SevenTiedAt
import Derived.SizedLaws
import Derived.Stop.Joined
import Derived.Tactics
import Derived.WalkKit
import Derived.WideLaws
import Derived.Test.YtgehkojccmkggaaDoorCards
import Derived.Test.YtgehkojccmkggaaDoorTie
import Derived.Test.YtgehkojccmkggaaDoorZB1
import Derived.Test.YtgehkojccmkggaaDoorZB2
import Derived.Test.YtgehkojccmkggaaDoorZB3
import Derived.Test.YtgehkojccmkggaaDoorZB5
import Derived.Test.YtgehkojccmkggaaDoorZB6
set_option linter.all false
section
set_option linter.unusedVariables false
set_option linter.unusedSimpArgs false
namespace Go.Proofs.YtgehkojccmkggaaDoorW.PrintWords
open Go.RowKit
theorem own_less {W : World} {b base n : Nat} {e : TypeId} {size : Nat} {v : Value} {xs : List Value} (h : W.ownsRow b e size v n xs) (hle : base ≤ b) : W.ownsRow base e size v n xs := by
 obtain ⟨h1, h2⟩ := h
 exact ⟨h1, h2.imp id fun ⟨g, cap, cur, he, hb, hr⟩ => ⟨g, cap, cur, he, Nat.le_trans hle hb, hr⟩⟩
end Go.Proofs.YtgehkojccmkggaaDoorW.PrintWords
end
section
namespace Go.Proofs.YtgehkojccmkggaaDoorW.PrintWords
open Go.RowKit
namespace Foot
variable {P Q : World → Prop} {W W1 : World} {ok ok' : Nat → Prop}
theorem imp (h : Foot P W ok) (hi : ∀ W', P W' → Q W') : Foot Q W ok := fun W' hW => hi W' (h W' hW)
end Foot
end Go.Proofs.YtgehkojccmkggaaDoorW.PrintWords
end
section
namespace Go.Proofs.YtgehkojccmkggaaDoorW.PrintWords
open Go.RowKit
def shr (k : IntKind) (x y : Int) : Int := x / 2 ^ min y.toNat k.bits
theorem shr_small {k : IntKind} {x y j : Int} (h : shr k x y = j) (hy : y ≤ k.bits) : x / 2 ^ y.toNat = j := by rw [← h]; unfold shr; rw [Nat.min_eq_left (by omega)]
end Go.Proofs.YtgehkojccmkggaaDoorW.PrintWords
end
section
namespace Go.Proofs.YtgehkojccmkggaaDoor.K
open Go.ChangeShapes Go.WideShapes Go.ChangeAt Go.RowKit Go.Proofs.YtgehkojccmkggaaDoorW.PrintWords Go.Proofs.YtgehkojccmkggaaDoor.H
section
variable {H : Type} {enc : TypeId × Value → H} {w : World} {base : Nat} {spare : Nat → Bool} {held : Bool} {r : Reach} {b0 : Nat} {v : Value} {y : DataW H} {p : List MemPlace}
set_option maxRecDepth 100000 in
theorem arg_ints (hv : Value.okWide Tryd.prog w r b0 29 v) (h : DataW.Trod enc Tryd.prog w base spare held 29 v y p) (hb : Rows.uptoBulk y ≤ 1048576) :
  ∃ (A : Option Addr) (l : List Int) (c : Nat), v = .slice A l.length c ∧ l.length ≤ c ∧ Kd.C (Kd.int .i64) w A l.length l ∧ l.length ≤ 1048576 ∧ ∀ n ∈ l, I64 n := by
 obtain ⟨a, len, cap, rfl⟩ := okWide_slice Tryd.underlying29 hv
 obtain ⟨l, ⟨A, c, e, hc, hC⟩, ⟨_, h2⟩, hm⟩ := OpensB.arg opens29 h
 rw [ones] at hm
 have e1 : [Value.slice a len cap] = [.slice A l.length c] := e
 injection e1 with e1
 exact ⟨A, l, c, e1, hc, hC, by omega, h2⟩
end
end Go.Proofs.YtgehkojccmkggaaDoor.K
end
section
namespace Go.Proofs.YtgehkojccmkggaaDoor.K
open Go.RowKit Go.Shelf Go.Proofs.YtgehkojccmkggaaDoorW.PrintWords Go.Proofs.YtgehkojccmkggaaDoorW.PrintLast Go.Proofs.YtgehkojccmkggaaDoorW.PrintMore Go.Proofs.YtgehkojccmkggaaDoor.H Tune
set_option linter.unusedVariables false
set_option linter.unusedSimpArgs false
theorem isT_iff {h : List S26} {js : List J} {b : Int × Int} {l : List Int} : isT h js b l = true ↔ l.length = h.length ∧ Tun h.length js noLeft b (loH h) (hiH h) (okG []) (fun x => l.getD x 0) := by
 unfold isT Tun
 rw [Bool.and_eq_true, Bool.and_eq_true, decide_eq_true_eq, List.all_eq_true, List.all_eq_true]
 refine and_congr_right fun _ => and_congr ?_ ?_
 ·refine ⟨fun h1 x hx _ => ?_, fun h1 x hx => ?_⟩
  ·have := h1 x (List.mem_range.2 hx)
   unfold inSpan at this
   simp only [Bool.and_eq_true, decide_eq_true_eq] at this
   exact ⟨this.1, this.2, rfl⟩
  ·have := h1 x (List.mem_range.1 hx) rfl
   unfold inSpan
   simp only [Bool.and_eq_true, decide_eq_true_eq]
   exact ⟨this.1, this.2.1⟩
 ·exact ⟨fun h1 j hj _ _ => h1 j hj, fun h1 j hj => h1 j hj rfl rfl⟩
end Go.Proofs.YtgehkojccmkggaaDoor.K
end
section
namespace Go.Proofs.YtgehkojccmkggaaDoor.H
open Go.RowKit Go.Proofs.YtgehkojccmkggaaDoorW.PrintWords Go.Proofs.YtgehkojccmkggaaDoorW.PrintLast Go.Proofs.YtgehkojccmkggaaDoorW.PrintMore
set_option linter.unusedVariables false
set_option linter.unusedSimpArgs false
def saronref00_Bears.f (a0_0 : Int) (a0_1 : Int) (a1 : Int) : Option (Bool) := (saronref00_Sits.f a1 a0_0 a0_1).bind fun t184 => (some t184)
set_option maxHeartbeats 8000000 in
set_option maxRecDepth 100000 in
theorem saronref00_Bears.calls (a0_0 : Int) (a0_1 : Int) (a1 : Int) (r : Bool) (w : World) (h : saronref00_Bears.f a0_0 a0_1 a1 = some r) :
  Calls Tryd.prog 40 #[.agg #[.int .i64 a0_0, .int .i64 a0_1], .int .i64 a1] w fun e w' => e = .returned (.bool r) ∧ Below w.heap.size w w' := by
 have hu26 := Tryd.underlying26
 have HB := zh (Below.refl w.heap.size w)
 have H : ((saronref00_Sits.f a1 a0_0 a0_1).bind fun t184 => (some t184)) = some r := h
 clear h
 replace H := Option.bind_eq_some_iff.mp H
 obtain ⟨t184, A30, H⟩ := H
 replace H : (some t184) = some r := H
 have A3 := zh A30
 clear A30
 obtain rfl := Option.some.inj H
 go_enter Tryd.func40, Tryd.ntmps40
 go_wp2_with (first | ((with_reducible refine gate_dst (N := 2) rfl ?_); refine box_event ?hg (N := 2) ?hd (cs := #[.int .i64 a0_0, .int .i64 a0_1]) (t := 26) ?hr ?_; (case hd => rfl); (case hg => rfl); (case hr => first | (go_simp; done) | (go_simp; rfl)); intro gb183 hg w4 hbox hb; have BK183 := zh (hbox); have GW183 := zh ((by rw [hg]; exact (below_size zb) : w.heap.size ≤ gb183)); have GE183 := zh ((by rw [hg]; exact (below_size zb) : w.heap.size ≤ gb183)); replace HB := zh (below_step zb hb); clear hb hbox hg; obtain ⟨hcz5_0, hcz5_1⟩ := zC2 BK183.out; obtain ⟨hfz5_0, hfz5_1⟩ := zF2 BK183.out) | ((with_reducible refine gate_callee (f := 59) rfl ?_); refine goesL_ (some 10) rfl rfl Tryd.func59 zk rfl #[.int .i64 a1, .int .i64 a0_0, .int .i64 a0_1] rfl zm ?_; (with_reducible refine (saronref00_Sits.calls a1 a0_0 a0_1 t184 _ A3.out).mono ?_); rintro e w' ⟨rfl, ⟨nd, rfl⟩⟩; refine ⟨_, rfl, ?_⟩))
 go_ret
 exact ⟨zf, zb⟩
def saronref00_Bit.f (a0 : Int) (a1 : Int) : Option (Bool) := if 0 ≤ a1 then (some ((Go.bits .and .i64 (shr .i64 a0 a1) 1) == 1)) else (none)
set_option maxHeartbeats 8000000 in
set_option maxRecDepth 100000 in
theorem saronref00_Bit.calls (a0 : Int) (a1 : Int) (r : Bool) (w : World) (h : saronref00_Bit.f a0 a1 = some r) :
  Calls Tryd.prog 47 #[.int .i64 a0, .int .i64 a1] w fun e w' => e = .returned (.bool r) ∧ Drawn0 w w' := by
 have H : (if 0 ≤ a1 then (some ((Go.bits .and .i64 (shr .i64 a0 a1) 1) == 1)) else (none)) = some r := h
 clear h
 by_cases c3 : 0 ≤ a1
 ·rw [if_pos c3] at H
  have c3b0 := eq_true c3
  have c3b1 : decide (0 ≤ a1) = true := decide_eq_true c3
  clear c3
  obtain ⟨ji4, hji4⟩ : ∃ j_ : Int, (shr .i64 a0 a1) = j_ := ⟨_, rfl⟩
  replace H : (some ((Go.bits .and .i64 (ji4) 1) == 1)) = some r := by first | (rw [hji4] at H; exact H) | (simp only [hji4] at H ⊢; exact H)
  have hji4_ : (a0 / 2 ^ min a1.toNat 64) = ji4 := hji4
  have hji4z : a1 ≤ 64 → (a0 / 2 ^ a1.toNat) = ji4 := shr_small hji4
  obtain rfl := Option.some.inj H
  go_enter Tryd.func47, Tryd.ntmps47
  go_wp2
  go_ret
  exact ⟨by first | rfl | (simp; done) | (simp only [← hji4] <;> (first | rfl | simp)) | (simp [*]; done), by repeat (first | exact Drawn0.refl _ | apply Drawn0.step)⟩
 ·rw [if_neg c3] at H
  exact absurd H (by simp)
def saronref00_Nth.f (l0 : List Int) (a1 : Int) : Option (Int) := if (l0.length : Int) = 0 then (some 0) else ((saronref00_Turn.f a1 (l0.length : Int)).bind fun t523 => (if 0 ≤ t523 then (if t523 < (l0.length : Int) then (some (rd l0 t523)) else (none)) else (none)))
set_option maxHeartbeats 8000000 in
set_option maxRecDepth 100000 in
theorem saronref00_Nth.calls (A0 : Option Addr) (c0 : Nat) (l0 : List Int) (a1 : Int) (r : Int) (w : World) (hr0 : Kd.C (Kd.int .i64) w A0 l0.length l0) (hc0 : l0.length ≤ c0) (h : saronref00_Nth.f l0 a1 = some r) :
  Calls Tryd.prog 76 #[.slice A0 l0.length c0, .int .i64 a1] w fun e w' => e = .returned (.int .i64 r) ∧ Drawn0 w w' := by
 have HR0 := zh hr0
 have HC0 := zh hc0
 clear hr0 hc0
 have H : (if (l0.length : Int) = 0 then (some 0) else ((saronref00_Turn.f a1 (l0.length : Int)).bind fun t523 => (if 0 ≤ t523 then (if t523 < (l0.length : Int) then (some (rd l0 t523)) else (none)) else (none)))) = some r := h
 clear h
 by_cases c3 : (l0.length : Int) = 0
 ·rw [if_pos c3] at H
  have c3b0 : ((l0.length : Int) == 0) = true := beq_iff_eq.mpr c3
  have c3b1 : ((l0.length : Int) != 0) = false := bne_eq_false_iff_eq.mpr c3
  clear c3
  obtain rfl := Option.some.inj H
  go_enter Tryd.func76, Tryd.ntmps76
  go_wp2
  go_ret
  exact ⟨ze, by repeat (first | exact Drawn0.refl _ | apply Drawn0.step)⟩
 ·rw [if_neg c3] at H
  have c3b0 : ((l0.length : Int) == 0) = false := beq_eq_false_iff_ne.mpr c3
  have c3b1 : ((l0.length : Int) != 0) = true := bne_iff_ne.mpr c3
  have c3b2 : ¬ (l0 = []) := fun h_ => c3 (by rw [h_]; rfl)
  replace H := Option.bind_eq_some_iff.mp H
  obtain ⟨t523, A40, H⟩ := H
  replace H : (if 0 ≤ t523 then (if t523 < (l0.length : Int) then (some (rd l0 t523)) else (none)) else (none)) = some r := H
  have A4 := zh A40
  clear A40
  by_cases c5 : 0 ≤ t523
  ·rw [if_pos c5] at H
   have c5b0 : decide (0 ≤ t523) = true := decide_eq_true c5
   clear c5
   by_cases c6 : t523 < (l0.length : Int)
   ·rw [if_pos c6] at H
    have c6b0 : decide (t523 < (l0.length : Int)) = true := decide_eq_true c6
    clear c6
    obtain rfl := Option.some.inj H
    go_enter Tryd.func76, Tryd.ntmps76
    go_wp2_with (first | ((with_reducible refine gate_callee (f := 39) rfl ?_); refine goesL_ (some 12) rfl rfl Tryd.func39 zk rfl #[.int .i64 a1, .int .i64 (l0.length : Int)] rfl zm ?_; (with_reducible refine (saronref00_Turn.calls a1 (l0.length : Int) t523 _ A4.out).mono ?_); rintro e w' ⟨rfl, ⟨nd, rfl⟩⟩; refine ⟨_, rfl, ?_⟩; have p524 : 0 ≤ (t523 : Int) := of_decide_eq_true zs; have q524 : t523 < (l0.length : Int) := of_decide_eq_true zs; obtain ⟨ad524, e524, hx524_0⟩ := Kd.at_int HR0.out t523 p524 q524; cases e524; replace p524 := eq_true p524; replace q524 := eq_true q524))
    go_ret
    exact ⟨ze, by repeat (first | exact Drawn0.refl _ | apply Drawn0.step)⟩
   ·rw [if_neg c6] at H
    exact absurd H (by simp)
  ·rw [if_neg c5] at H
   exact absurd H (by simp)
end Go.Proofs.YtgehkojccmkggaaDoor.H
end
section
namespace Go.Proofs.YtgehkojccmkggaaDoor.H
open Go.RowKit Go.Proofs.YtgehkojccmkggaaDoorW.PrintWords Go.Proofs.YtgehkojccmkggaaDoorW.PrintLast Go.Proofs.YtgehkojccmkggaaDoorW.PrintMore
set_option linter.unusedVariables false
set_option linter.unusedSimpArgs false
mutual
def saronlaw01_tuned.l0 : Nat → List Int → Int → List (S26) → List (S61) → List (S48) → Int → Int → Option (Bool)
 | 0, _, _, _, _, _, _, _ => none
 | k + 1, x1, x5, x619000, x619001, x619002, x619003, x619004 => if x5 < (x619001.length : Int) then (if 0 ≤ x5 then (saronlaw01_tuned.l1 k x1 x5 0 x619000 x619001 x619002 x619003 x619004 ((rd_T61 x619001 x5).f0) ((rd_T61 x619001 x5).f1)) else (none)) else (saronlaw01_tuned.l2 k x1 0 x619000 x619001 x619002 x619003 x619004)
def saronlaw01_tuned.l1 : Nat → List Int → Int → Int → List (S26) → List (S61) → List (S48) → Int → Int → List Int → List (S26) → Option (Bool)
 | 0, _, _, _, _, _, _, _, _, _, _ => none
 | k + 1, x1, x5, x7, x619000, x619001, x619002, x619003, x619004, x621000, x621001 => if x7 < (x621001.length : Int) then (if 0 ≤ (wrap64 (x7 + 1)) then (if (wrap64 (x7 + 1)) < (x621000.length : Int) then (if 0 ≤ (rd x621000 (wrap64 (x7 + 1))) then (if (rd x621000 (wrap64 (x7 + 1))) < (x1.length : Int) then (if 0 ≤ x7 then (if x7 < (x621000.length : Int) then (if 0 ≤ (rd x621000 x7) then (if (rd x621000 x7) < (x1.length : Int) then ((saronref00_Sits.f (wrap64 (1000 * (rd x1 (rd x621000 (wrap64 (x7 + 1)))))) (wrap64 (((rd_T26 x621001 x7).f0) * (rd x1 (rd x621000 x7)))) (wrap64 (((rd_T26 x621001 x7).f1) * (rd x1 (rd x621000 x7))))).bind fun t629 => (if t629 = true then (saronlaw01_tuned.l1 k x1 x5 (wrap64 (x7 + 1)) x619000 x619001 x619002 x619003 x619004 x621000 x621001) else (some false))) else (none)) else (none)) else (none)) else (none)) else (none)) else (none)) else (none)) else (none)) else (saronlaw01_tuned.l0 k x1 (wrap64 (x5 + 1)) x619000 x619001 x619002 x619003 x619004)
def saronlaw01_tuned.l2 : Nat → List Int → Int → List (S26) → List (S61) → List (S48) → Int → Int → Option (Bool)
 | 0, _, _, _, _, _, _, _ => none
 | k + 1, x1, x8, x619000, x619001, x619002, x619003, x619004 => if x8 < (x619002.length : Int) then (if 0 ≤ x8 then (if 0 ≤ ((rd_T48 x619002 x8).f1) then (if ((rd_T48 x619002 x8).f1) < (x1.length : Int) then (if 0 ≤ ((rd_T48 x619002 x8).f0) then (if ((rd_T48 x619002 x8).f0) < (x1.length : Int) then ((saronref00_Bears.f x619003 x619004 (wrap64 ((rd x1 ((rd_T48 x619002 x8).f1)) - (rd x1 ((rd_T48 x619002 x8).f0))))).bind fun t634 => (if t634 = true then (saronlaw01_tuned.l2 k x1 (wrap64 (x8 + 1)) x619000 x619001 x619002 x619003 x619004) else (some false))) else (none)) else (none)) else (none)) else (none)) else (none)) else (some true)
end
def saronlaw01_tuned.f (k : Nat) (l0_0 : List (S26)) (l0_1 : List (S61)) (l0_2 : List (S48)) (a0_3 : Int) (a0_4 : Int) (l1 : List Int) : Option (Bool) := saronlaw01_tuned.l0 k l1 0 l0_0 l0_1 l0_2 a0_3 a0_4
theorem saronlaw01_tuned.mono_l : ∀ k, (∀ y0 y1 y2 y3 y4 y5 y6, LeO (saronlaw01_tuned.l0 k y0 y1 y2 y3 y4 y5 y6) (saronlaw01_tuned.l0 (k + 1) y0 y1 y2 y3 y4 y5 y6)) ∧ (∀ y0 y1 y2 y3 y4 y5 y6 y7 y8 y9, LeO (saronlaw01_tuned.l1 k y0 y1 y2 y3 y4 y5 y6 y7 y8 y9) (saronlaw01_tuned.l1 (k + 1) y0 y1 y2 y3 y4 y5 y6 y7 y8 y9)) ∧ (∀ y0 y1 y2 y3 y4 y5 y6, LeO (saronlaw01_tuned.l2 k y0 y1 y2 y3 y4 y5 y6) (saronlaw01_tuned.l2 (k + 1) y0 y1 y2 y3 y4 y5 y6))
 | 0 => ⟨fun _ _ _ _ _ _ _ r h => by simp [saronlaw01_tuned.l0] at h, fun _ _ _ _ _ _ _ _ _ _ r h => by simp [saronlaw01_tuned.l1] at h, fun _ _ _ _ _ _ _ r h => by simp [saronlaw01_tuned.l2] at h⟩
 | k + 1 => by
  obtain ⟨ih0, ih1, ih2⟩ := saronlaw01_tuned.mono_l k
  refine ⟨?_, ?_, ?_⟩
  ·intro y0 y1 y2 y3 y4 y5 y6
   unfold saronlaw01_tuned.l0
   repeat' first
   | (with_reducible exact ih0 _ _ _ _ _ _ _)
   | (with_reducible exact ih1 _ _ _ _ _ _ _ _ _ _)
   | (with_reducible exact ih2 _ _ _ _ _ _ _)
   | (with_reducible exact LeO.refl _)
   | (with_reducible exact LeO.none _)
   | (with_reducible refine LeO.ite ?_ ?_)
   | (with_reducible refine LeO.bind ?_ (fun _ => ?_))
   | exact ih0 _ _ _ _ _ _ _
   | exact ih1 _ _ _ _ _ _ _ _ _ _
   | exact ih2 _ _ _ _ _ _ _
   | exact LeO.none _
   | refine LeO.ite ?_ ?_
   | refine LeO.bind ?_ (fun _ => ?_)
  ·intro y0 y1 y2 y3 y4 y5 y6 y7 y8 y9
   unfold saronlaw01_tuned.l1
   repeat' first
   | (with_reducible exact ih0 _ _ _ _ _ _ _)
   | (with_reducible exact ih1 _ _ _ _ _ _ _ _ _ _)
   | (with_reducible exact ih2 _ _ _ _ _ _ _)
   | (with_reducible exact LeO.refl _)
   | (with_reducible exact LeO.none _)
   | (with_reducible refine LeO.ite ?_ ?_)
   | (with_reducible refine LeO.bind ?_ (fun _ => ?_))
   | exact ih0 _ _ _ _ _ _ _
   | exact ih1 _ _ _ _ _ _ _ _ _ _
   | exact ih2 _ _ _ _ _ _ _
   | exact LeO.none _
   | refine LeO.ite ?_ ?_
   | refine LeO.bind ?_ (fun _ => ?_)
  ·intro y0 y1 y2 y3 y4 y5 y6
   unfold saronlaw01_tuned.l2
   repeat' first
   | (with_reducible exact ih0 _ _ _ _ _ _ _)
   | (with_reducible exact ih1 _ _ _ _ _ _ _ _ _ _)
   | (with_reducible exact ih2 _ _ _ _ _ _ _)
   | (with_reducible exact LeO.refl _)
   | (with_reducible exact LeO.none _)
   | (with_reducible refine LeO.ite ?_ ?_)
   | (with_reducible refine LeO.bind ?_ (fun _ => ?_))
   | exact ih0 _ _ _ _ _ _ _
   | exact ih1 _ _ _ _ _ _ _ _ _ _
   | exact ih2 _ _ _ _ _ _ _
   | exact LeO.none _
   | refine LeO.ite ?_ ?_
   | refine LeO.bind ?_ (fun _ => ?_)
theorem saronlaw01_tuned.mono : ∀ a0 a1 a2 a3 a4 a5 k, LeO (saronlaw01_tuned.f k a0 a1 a2 a3 a4 a5) (saronlaw01_tuned.f (k + 1) a0 a1 a2 a3 a4 a5) := by
 intro a0 a1 a2 a3 a4 a5 k
 obtain ⟨ih0, ih1, ih2⟩ := saronlaw01_tuned.mono_l k
 unfold saronlaw01_tuned.f
 repeat' first
   | (with_reducible exact ih0 _ _ _ _ _ _ _)
   | (with_reducible exact ih1 _ _ _ _ _ _ _ _ _ _)
   | (with_reducible exact ih2 _ _ _ _ _ _ _)
   | (with_reducible exact LeO.refl _)
   | (with_reducible exact LeO.none _)
   | (with_reducible refine LeO.ite ?_ ?_)
   | (with_reducible refine LeO.bind ?_ (fun _ => ?_))
   | exact ih0 _ _ _ _ _ _ _
   | exact ih1 _ _ _ _ _ _ _ _ _ _
   | exact ih2 _ _ _ _ _ _ _
   | exact LeO.none _
   | refine LeO.ite ?_ ?_
   | refine LeO.bind ?_ (fun _ => ?_)
def saronlaw01_tuned.T8 : Bool × List (List Nat × List Nat) := (true, [([], []), ([], []), ([1], [1]), ([], []), ([3], [3]), ([2, 4], [2, 4]), ([5], [5]), ([0, 6], [0, 6]), ([7], [7]), ([8], [8]), ([], []), ([10], [10]), ([], []), ([11, 12], [11, 12]), ([13], [13]), ([14], [14]), ([], []), ([], []), ([17], [17]), ([], []), ([18, 19], [18, 19]), ([20], [20]), ([16, 21], [16, 21]), ([22], [22]), ([15, 23], [15, 23]), ([], []), ([25], [25]), ([], []), ([26, 27], [26, 27]), ([28], [28]), ([29], [29]), ([], []), ([], []), ([32], [32]), ([], []), ([33, 34], [33, 34]), ([35], [35]), ([31, 36], [31, 36]), ([37], [37]), ([30, 38], [30, 38]), ([9, 24, 39], [9, 24, 39]), ([40], [40])])
def saronlaw01_tuned.B8 : List Nat := [0, 0, 2, 0, 8, 30, 62, 127, 255, 511, 0, 1024, 0, 7168, 15360, 31744, 0, 0, 131072, 0, 917504, 1966080, 4128768, 8323072, 16776192, 0, 33554432, 0, 234881024, 503316480, 1040187392, 0, 0, 4294967296, 0, 30064771072, 64424509440, 135291469824, 272730423296, 549722259456, 1099511627775, 2199023255551]
theorem saronlaw01_tuned.tab8 : rtab .any (opsOf Tryd.f43 8) = saronlaw01_tuned.T8 := by kernel_rfl
theorem saronlaw01_tuned.bits8 : waitsOk saronlaw01_tuned.T8.2 saronlaw01_tuned.B8 = true := by kernel_rfl
def saronlaw01_tuned.T13 : Bool × List (List Nat × List Nat) := (true, [([], []), ([0], [0]), ([], []), ([], []), ([3], [3]), ([], []), ([4, 5], [4, 5]), ([6], [6]), ([7], [7]), ([2, 8], [2, 8]), ([9], [9]), ([], []), ([], []), ([12], [12]), ([], []), ([13, 14], [13, 14]), ([15], [15]), ([16], [16]), ([11, 17], [11, 17]), ([18], [18]), ([10, 19], [10, 19]), ([1, 20], [1, 20]), ([21], [21])])
def saronlaw01_tuned.B13 : List Nat := [0, 1, 0, 0, 8, 0, 56, 120, 248, 508, 1020, 0, 0, 4096, 0, 28672, 61440, 126976, 260096, 522240, 1048572, 2097151, 4194303]
theorem saronlaw01_tuned.tab13 : rtab .any (opsOf Tryd.f43 13) = saronlaw01_tuned.T13 := by kernel_rfl
theorem saronlaw01_tuned.bits13 : waitsOk saronlaw01_tuned.T13.2 saronlaw01_tuned.B13 = true := by kernel_rfl
set_option maxHeartbeats 8000000 in
set_option maxRecDepth 100000 in
theorem saronlaw01_tuned.calls (k : Nat) (A0_0 : Option Addr) (c0_0 : Nat) (l0_0 : List (S26)) (A0_1 : Option Addr) (c0_1 : Nat) (l0_1 : List (S61)) (A0_2 : Option Addr) (c0_2 : Nat) (l0_2 : List (S48)) (a0_3 : Int) (a0_4 : Int) (A1 : Option Addr) (c1 : Nat) (l1 : List Int) (r : Bool) (w : World) (hr0_0 : Kd.C k26 w A0_0 l0_0.length l0_0) (hc0_0 : l0_0.length ≤ c0_0) (hr0_1 : Kd.C k61 w A0_1 l0_1.length l0_1) (hc0_1 : l0_1.length ≤ c0_1) (hr0_2 : Kd.C k48 w A0_2 l0_2.length l0_2) (hc0_2 : l0_2.length ≤ c0_2) (hr1 : Kd.C (Kd.int .i64) w A1 l1.length l1) (hc1 : l1.length ≤ c1) (h : saronlaw01_tuned.f k l0_0 l0_1 l0_2 a0_3 a0_4 l1 = some r) :
  Calls Tryd.prog 43 #[.agg #[.slice A0_0 l0_0.length c0_0, .slice A0_1 l0_1.length c0_1, .slice A0_2 l0_2.length c0_2, .int .i64 a0_3, .int .i64 a0_4], .slice A1 l1.length c1] w fun e w' => e = .returned (.bool r) ∧ Below w.heap.size w w' := by
 have hu28 := Tryd.underlying28
 have hu61 := Tryd.underlying61
 have hu26 := Tryd.underlying26
 have HR0_0 := zh hr0_0
 have HC0_0 := zh hc0_0
 clear hr0_0 hc0_0
 have HR0_1 := zh hr0_1
 have HC0_1 := zh hc0_1
 clear hr0_1 hc0_1
 have HR0_2 := zh hr0_2
 have HC0_2 := zh hc0_2
 clear hr0_2 hc0_2
 have HR1 := zh hr1
 have HC1 := zh hc1
 clear hr1 hc1
 have HB := zh (Below.refl w.heap.size w)
 have H : (saronlaw01_tuned.l0 k l1 0 l0_0 l0_1 l0_2 a0_3 a0_4) = some r := h
 clear h
 have H' := zh H
 clear H
 go_enter Tryd.func43, Tryd.ntmps43
 go_wp2_with (first | ((with_reducible refine gate_dst (N := 2) rfl ?_); refine box_event ?hg (N := 2) ?hd (cs := #[.slice A0_0 l0_0.length c0_0, .slice A0_1 l0_1.length c0_1, .slice A0_2 l0_2.length c0_2, .int .i64 a0_3, .int .i64 a0_4]) (t := 28) ?hr ?_; (case hd => rfl); (case hg => rfl); (case hr => first | (go_simp; done) | (go_simp; rfl)); intro gb618 hg w3 hbox hb; have BK618 := zh (hbox); have GW618 := zh ((by rw [hg]; exact (below_size zb) : w.heap.size ≤ gb618)); have GE618 := zh ((by rw [hg]; exact (below_size zb) : w.heap.size ≤ gb618)); replace HB := zh (below_step zb hb); clear hb hbox hg))
 go_loopg [5] k (fun kq v5 w' => ∃ (x5_1 : Int), v5 = .int .i64 x5_1 ∧ Aside0 (saronlaw01_tuned.l0 kq l1 x5_1 l0_0 l0_1 l0_2 a0_3 a0_4 = some r) ∧ Aside0 (kq ≤ k) ∧ Aside0 (w'.heap[gb618]? = some (.cells #[(.slice A0_0 l0_0.length c0_0), (.slice A0_1 l0_1.length c0_1), (.slice A0_2 l0_2.length c0_2), .int .i64 a0_3, .int .i64 a0_4] 28 (0, 0))) ∧ Aside0 (Below w.heap.size w w'))
 case atStart => exact ⟨(0), ze, H', ⟨Nat.le_refl _⟩, ⟨zc BK618⟩, ⟨zb⟩⟩
 case round =>
  clear H'
  try clear c1
  try clear p2
  obtain ⟨x5_1, rfl, HA, HK1, BK618, HB⟩ := hrel
  cases gk with
  | zero => exact absurd HA.out (by simp [saronlaw01_tuned.l0])
  | succ k1 =>
   have H := HA.out
   clear HA
   simp only [saronlaw01_tuned.l0] at H
   by_cases c4 : x5_1 < (l0_1.length : Int)
   ·rw [if_pos c4] at H
    have c4b0 : decide (x5_1 < (l0_1.length : Int)) = true := decide_eq_true c4
    clear c4
    by_cases c5 : 0 ≤ x5_1
    ·rw [if_pos c5] at H
     have c5b0 : decide (0 ≤ x5_1) = true := decide_eq_true c5
     clear c5
     have H' := zh H
     clear H
     obtain ⟨hcz6_0, hcz6_1, hcz6_2, hcz6_3, hcz6_4⟩ := zC5 BK618.out
     obtain ⟨hfz6_0, hfz6_1, hfz6_2, hfz6_3, hfz6_4⟩ := zF5 BK618.out
     have p619 : 0 ≤ (x5_1 : Int) := of_decide_eq_true zs
     have q619 : x5_1 < (l0_1.length : Int) := of_decide_eq_true zs
     obtain ⟨ad619, A619_0, c619_0, A619_1, c619_1, e619, hx619_0, hx619_1, hl619_0, hi619_0, hl619_1, hi619_1⟩ := at_T61 HR0_1.out x5_1 p619 q619
     cases e619
     replace hx619_0 := ve HB.out hx619_0
     replace hx619_1 := ve HB.out hx619_1
     have HR619_0 := zh hi619_0
     have HC619_0 := zh hl619_0
     clear hi619_0 hl619_0
     have HR619_1 := zh hi619_1
     have HC619_1 := zh hl619_1
     clear hi619_1 hl619_1
     replace p619 := eq_true p619
     replace q619 := eq_true q619
     go_wp2_with (first | ((with_reducible refine gate_dst (N := 6) rfl ?_); refine box_event ?hg (N := 6) ?hd (cs := #[.slice none 0 0, .slice none 0 0]) (t := 61) ?hr ?_; (case hd => rfl); (case hg => rfl); (case hr => first | (go_simp; done) | (go_simp; rfl)); intro gb620 hg w7 hbox hb; have BK620 := zh (hbox); have GW620 := zh ((by rw [hg]; exact (below_size zb) : w.heap.size ≤ gb620)); have GE620 := zh ((by rw [hg]; exact (below_size zb) : w.heap.size ≤ gb620)); replace HB := zh (below_step zb hb); have NB618_620 := zh ((by rw [hg]; exact Nat.ne_of_lt (blk_lt (g := gb618) (o := .cells #[.slice A0_0 l0_0.length c0_0, .slice (some ad619) l0_1.length c0_1, .slice A0_2 l0_2.length c0_2, .int .i64 a0_3, .int .i64 a0_4] 28 (0, 0)) (zc BK618)) : gb618 ≠ gb620)); have NB620_618 := zh ((by rw [hg]; exact Nat.ne_of_gt (blk_lt (g := gb618) (o := .cells #[.slice A0_0 l0_0.length c0_0, .slice (some ad619) l0_1.length c0_1, .slice A0_2 l0_2.length c0_2, .int .i64 a0_3, .int .i64 a0_4] 28 (0, 0)) (zc BK618)) : gb620 ≠ gb618)); replace BK618 := zX BK618 hb; clear hb hbox hg; have hnb8 := NB620_618.out; have hnc8 := NB618_620.out; obtain ⟨hcz9_0, hcz9_1⟩ := zC2 BK620.out; obtain ⟨hfz9_0, hfz9_1⟩ := zF2 BK620.out))
     go_loopg [7] k1 (fun kq v7 w' => ∃ (x7_2 : Int), v7 = .int .i64 x7_2 ∧ Aside0 (saronlaw01_tuned.l1 kq l1 x5_1 x7_2 l0_0 l0_1 l0_2 a0_3 a0_4 ((rd_T61 l0_1 x5_1).f0) ((rd_T61 l0_1 x5_1).f1) = some r) ∧ Aside0 (kq ≤ k1) ∧ Aside0 (w'.heap[gb618]? = some (.cells #[(.slice A0_0 l0_0.length c0_0), (.slice (some ad619) l0_1.length c0_1), (.slice A0_2 l0_2.length c0_2), .int .i64 a0_3, .int .i64 a0_4] 28 (0, 0))) ∧ Aside0 (w'.heap[gb620]? = some (.cells #[(.slice A619_0 ((rd_T61 l0_1 x5_1).f0).length c619_0), (.slice A619_1 ((rd_T61 l0_1 x5_1).f1).length c619_1)] 61 (0, 0))) ∧ Aside0 (Below w.heap.size w w'))
     case atStart => exact ⟨(0), ze, H', ⟨Nat.le_refl _⟩, ⟨by (with_reducible repeat (first | refine blk_drewN ?_ _ | refine blk_drew ?_ | refine blk_alloc ?_ _)); refine blk_far ?_ NB618_620.out _; (with_reducible repeat (first | refine blk_drewN ?_ _ | refine blk_drew ?_ | refine blk_alloc ?_ _)); refine blk_far ?_ NB618_620.out _; (with_reducible repeat (first | refine blk_drewN ?_ _ | refine blk_drew ?_ | refine blk_alloc ?_ _)); exact BK618.out⟩, ⟨by (with_reducible repeat (first | refine blk_drewN ?_ _ | refine blk_drew ?_ | refine blk_alloc ?_ _)); refine blk_put (cs := #[.slice A619_0 ((rd_T61 l0_1 x5_1).f0).length c619_0, .slice none 0 0]) ?_ 1 _ rfl; (with_reducible repeat (first | refine blk_drewN ?_ _ | refine blk_drew ?_ | refine blk_alloc ?_ _)); refine blk_put (cs := #[.slice none 0 0, .slice none 0 0]) ?_ 0 _ rfl; (with_reducible repeat (first | refine blk_drewN ?_ _ | refine blk_drew ?_ | refine blk_alloc ?_ _)); exact BK620.out⟩, ⟨zb⟩⟩
     case round =>
      clear H'
      try clear c1
      try clear p2
      try clear c4
      try clear c4b0
      try clear c5
      try clear c5b0
      try clear c6
      try clear p6
      try clear q6
      try clear hx6
      try clear c8
      try clear hcz6_0
      try clear hcz6_1
      try clear hcz6_2
      try clear hcz6_3
      try clear hcz6_4
      try clear hcz9_0
      try clear hcz9_1
      try clear hfz6_0
      try clear hfz6_1
      try clear hfz6_2
      try clear hfz6_3
      try clear hfz6_4
      try clear hfz9_0
      try clear hfz9_1
      try clear hx619_0
      try clear hx619_1
      try clear p2
      try clear p619
      try clear q619
      obtain ⟨x7_2, rfl, HA, HK2, BK618, BK620, HB⟩ := hrel
      cases gk with
      | zero => exact absurd HA.out (by simp [saronlaw01_tuned.l1])
      | succ k2 =>
       have H := HA.out
       clear HA
       simp only [saronlaw01_tuned.l1] at H
       by_cases c10 : x7_2 < (((rd_T61 l0_1 x5_1).f1).length : Int)
       ·rw [if_pos c10] at H
        have c10b0 : decide (x7_2 < (((rd_T61 l0_1 x5_1).f1).length : Int)) = true := decide_eq_true c10
        clear c10
        obtain ⟨ji11, hji11⟩ : ∃ j_ : Int, (wrap64 (x7_2 + 1)) = j_ := ⟨_, rfl⟩
        replace H : (if 0 ≤ (ji11) then (if (ji11) < (((rd_T61 l0_1 x5_1).f0).length : Int) then (if 0 ≤ (rd ((rd_T61 l0_1 x5_1).f0) (ji11)) then (if (rd ((rd_T61 l0_1 x5_1).f0) (ji11)) < (l1.length : Int) then (if 0 ≤ x7_2 then (if x7_2 < (((rd_T61 l0_1 x5_1).f0).length : Int) then (if 0 ≤ (rd ((rd_T61 l0_1 x5_1).f0) x7_2) then (if (rd ((rd_T61 l0_1 x5_1).f0) x7_2) < (l1.length : Int) then ((saronref00_Sits.f (wrap64 (1000 * (rd l1 (rd ((rd_T61 l0_1 x5_1).f0) (ji11))))) (wrap64 (((rd_T26 ((rd_T61 l0_1 x5_1).f1) x7_2).f0) * (rd l1 (rd ((rd_T61 l0_1 x5_1).f0) x7_2)))) (wrap64 (((rd_T26 ((rd_T61 l0_1 x5_1).f1) x7_2).f1) * (rd l1 (rd ((rd_T61 l0_1 x5_1).f0) x7_2))))).bind fun t629 => (if t629 = true then (saronlaw01_tuned.l1 k2 l1 x5_1 ji11 l0_0 l0_1 l0_2 a0_3 a0_4 ((rd_T61 l0_1 x5_1).f0) ((rd_T61 l0_1 x5_1).f1)) else (some false))) else (none)) else (none)) else (none)) else (none)) else (none)) else (none)) else (none)) else (none)) = some r := by first | (rw [hji11] at H; exact H) | (simp only [hji11] at H ⊢; exact H)
        have hji11w : (IntKind.i64.wrap (x7_2 + 1)) = ji11 := (i64_w _).trans hji11
        by_cases c12 : 0 ≤ (ji11)
        ·rw [if_pos c12] at H
         have c12b0 : decide (0 ≤ (ji11)) = true := decide_eq_true c12
         clear c12
         by_cases c13 : (ji11) < (((rd_T61 l0_1 x5_1).f0).length : Int)
         ·rw [if_pos c13] at H
          have c13b0 : decide ((ji11) < (((rd_T61 l0_1 x5_1).f0).length : Int)) = true := decide_eq_true c13
          clear c13
          by_cases c14 : 0 ≤ (rd ((rd_T61 l0_1 x5_1).f0) (ji11))
          ·rw [if_pos c14] at H
           have c14b0 : decide (0 ≤ (rd ((rd_T61 l0_1 x5_1).f0) (ji11))) = true := decide_eq_true c14
           clear c14
           by_cases c15 : (rd ((rd_T61 l0_1 x5_1).f0) (ji11)) < (l1.length : Int)
           ·rw [if_pos c15] at H
            have c15b0 : decide ((rd ((rd_T61 l0_1 x5_1).f0) (ji11)) < (l1.length : Int)) = true := decide_eq_true c15
            clear c15
            by_cases c16 : 0 ≤ x7_2
            ·rw [if_pos c16] at H
             have c16b0 : decide (0 ≤ x7_2) = true := decide_eq_true c16
             clear c16
             by_cases c17 : x7_2 < (((rd_T61 l0_1 x5_1).f0).length : Int)
             ·rw [if_pos c17] at H
              have c17b0 : decide (x7_2 < (((rd_T61 l0_1 x5_1).f0).length : Int)) = true := decide_eq_true c17
              clear c17
              by_cases c18 : 0 ≤ (rd ((rd_T61 l0_1 x5_1).f0) x7_2)
              ·rw [if_pos c18] at H
               have c18b0 : decide (0 ≤ (rd ((rd_T61 l0_1 x5_1).f0) x7_2)) = true := decide_eq_true c18
               clear c18
               by_cases c19 : (rd ((rd_T61 l0_1 x5_1).f0) x7_2) < (l1.length : Int)
               ·rw [if_pos c19] at H
                have c19b0 : decide ((rd ((rd_T61 l0_1 x5_1).f0) x7_2) < (l1.length : Int)) = true := decide_eq_true c19
                clear c19
                replace H := Option.bind_eq_some_iff.mp H
                obtain ⟨t629, A200, H⟩ := H
                replace H : (if t629 = true then (saronlaw01_tuned.l1 k2 l1 x5_1 ji11 l0_0 l0_1 l0_2 a0_3 a0_4 ((rd_T61 l0_1 x5_1).f0) ((rd_T61 l0_1 x5_1).f1)) else (some false)) = some r := H
                have A20 := zh A200
                clear A200
                by_cases c21 : t629 = true
                ·subst c21
                 have H1 : (saronlaw01_tuned.l1 k2 l1 x5_1 ji11 l0_0 l0_1 l0_2 a0_3 a0_4 ((rd_T61 l0_1 x5_1).f0) ((rd_T61 l0_1 x5_1).f1)) = some r := by rw [if_pos rfl] at H; exact H
                 clear H
                 have H := H1
                 clear H1
                 have H' := zh H
                 clear H
                 have hnb22 := NB620_618.out
                 have hnc22 := NB618_620.out
                 obtain ⟨hcz23_0, hcz23_1⟩ := zC2 BK620.out
                 obtain ⟨hfz23_0, hfz23_1⟩ := zF2 BK620.out
                 try go_wp2
                 replace BK618 := zh (blk_drew BK618.out)
                 replace BK620 := zh (blk_drew BK620.out)
                 replace HB := zh (below_drew1 HB.out)
                 have p621 : 0 ≤ ((ji11) : Int) := of_decide_eq_true zs
                 have q621 : (ji11) < (((rd_T61 l0_1 x5_1).f0).length : Int) := of_decide_eq_true zs
                 obtain ⟨ad621, e621, hx621_0⟩ := Kd.at_int HR619_0.out (ji11) p621 q621
                 have hw621_0 := hx621_0
                 cases e621
                 replace hx621_0 := ve HB.out hx621_0
                 replace p621 := eq_true p621
                 replace q621 := eq_true q621
                 have p622 : 0 ≤ ((rd ((rd_T61 l0_1 x5_1).f0) (ji11)) : Int) := of_decide_eq_true zs
                 have q622 : (rd ((rd_T61 l0_1 x5_1).f0) (ji11)) < (l1.length : Int) := of_decide_eq_true zs
                 obtain ⟨ad622, e622, hx622_0⟩ := Kd.at_int HR1.out (rd ((rd_T61 l0_1 x5_1).f0) (ji11)) p622 q622
                 have hw622_0 := hx622_0
                 cases e622
                 replace hx622_0 := ve HB.out hx622_0
                 replace p622 := eq_true p622
                 replace q622 := eq_true q622
                 have p623 : 0 ≤ (x7_2 : Int) := of_decide_eq_true zs
                 have q623 : x7_2 < (((rd_T61 l0_1 x5_1).f1).length : Int) := of_decide_eq_true zs
                 obtain ⟨ad623, e623, hx623_0, hx623_1⟩ := at_T26 HR619_1.out x7_2 p623 q623
                 have hw623_1 := hx623_1
                 have hw623_0 := hx623_0
                 cases e623
                 replace hx623_0 := ve HB.out hx623_0
                 replace hx623_1 := ve HB.out hx623_1
                 replace p623 := eq_true p623
                 replace q623 := eq_true q623
                 have p624 : 0 ≤ (x7_2 : Int) := of_decide_eq_true zs
                 have q624 : x7_2 < (((rd_T61 l0_1 x5_1).f0).length : Int) := of_decide_eq_true zs
                 obtain ⟨ad624, e624, hx624_0⟩ := Kd.at_int HR619_0.out x7_2 p624 q624
                 have hw624_0 := hx624_0
                 obtain rfl : ad621 = ad624 := (by injection e624)
                 replace hx624_0 := ve HB.out hx624_0
                 replace p624 := eq_true p624
                 replace q624 := eq_true q624
                 have p625 : 0 ≤ ((rd ((rd_T61 l0_1 x5_1).f0) x7_2) : Int) := of_decide_eq_true zs
                 have q625 : (rd ((rd_T61 l0_1 x5_1).f0) x7_2) < (l1.length : Int) := of_decide_eq_true zs
                 obtain ⟨ad625, e625, hx625_0⟩ := Kd.at_int HR1.out (rd ((rd_T61 l0_1 x5_1).f0) x7_2) p625 q625
                 have hw625_0 := hx625_0
                 obtain rfl : ad622 = ad625 := (by injection e625)
                 replace hx625_0 := ve HB.out hx625_0
                 replace p625 := eq_true p625
                 replace q625 := eq_true q625
                 have p626 : 0 ≤ (x7_2 : Int) := of_decide_eq_true zs
                 have q626 : x7_2 < (((rd_T61 l0_1 x5_1).f1).length : Int) := of_decide_eq_true zs
                 obtain ⟨ad626, e626, hx626_0, hx626_1⟩ := at_T26 HR619_1.out x7_2 p626 q626
                 have hw626_1 := hx626_1
                 have hw626_0 := hx626_0
                 obtain rfl : ad623 = ad626 := (by injection e626)
                 replace hx626_0 := ve HB.out hx626_0
                 replace hx626_1 := ve HB.out hx626_1
                 replace p626 := eq_true p626
                 replace q626 := eq_true q626
                 have p627 : 0 ≤ (x7_2 : Int) := of_decide_eq_true zs
                 have q627 : x7_2 < (((rd_T61 l0_1 x5_1).f0).length : Int) := of_decide_eq_true zs
                 obtain ⟨ad627, e627, hx627_0⟩ := Kd.at_int HR619_0.out x7_2 p627 q627
                 have hw627_0 := hx627_0
                 obtain rfl : ad621 = ad627 := (by injection e627)
                 replace hx627_0 := ve HB.out hx627_0
                 replace p627 := eq_true p627
                 replace q627 := eq_true q627
                 have p628 : 0 ≤ ((rd ((rd_T61 l0_1 x5_1).f0) x7_2) : Int) := of_decide_eq_true zs
                 have q628 : (rd ((rd_T61 l0_1 x5_1).f0) x7_2) < (l1.length : Int) := of_decide_eq_true zs
                 obtain ⟨ad628, e628, hx628_0⟩ := Kd.at_int HR1.out (rd ((rd_T61 l0_1 x5_1).f0) x7_2) p628 q628
                 have hw628_0 := hx628_0
                 obtain rfl : ad622 = ad628 := (by injection e628)
                 replace hx628_0 := ve HB.out hx628_0
                 replace p628 := eq_true p628
                 replace q628 := eq_true q628
                 refine start_ (n := 42) (S := fun w' => w'.cell? ⟨gb620, 0, none⟩ = some (.slice (some ad621) ((rd_T61 l0_1 x5_1).f0).length c619_0) ∧ w'.cell? ⟨gb620, 1, none⟩ = some (.slice (some ad623) ((rd_T61 l0_1 x5_1).f1).length c619_1) ∧ w'.cell? (ad621.add ((ji11)).toNat) = some (.int .i64 (rd ((rd_T61 l0_1 x5_1).f0) (ji11))) ∧ w'.cell? (ad622.add ((rd ((rd_T61 l0_1 x5_1).f0) (ji11))).toNat) = some (.int .i64 (rd l1 (rd ((rd_T61 l0_1 x5_1).f0) (ji11)))) ∧ w'.cell? (ad623.add ((x7_2).toNat * 2)) = some (.int .i64 ((rd_T26 ((rd_T61 l0_1 x5_1).f1) x7_2).f0)) ∧ w'.cell? ⟨(ad623.add ((x7_2).toNat * 2)).block, (ad623.add ((x7_2).toNat * 2)).off + 1, none⟩ = some (.int .i64 ((rd_T26 ((rd_T61 l0_1 x5_1).f1) x7_2).f1)) ∧ w'.cell? (ad621.add (x7_2).toNat) = some (.int .i64 (rd ((rd_T61 l0_1 x5_1).f0) x7_2)) ∧ w'.cell? (ad622.add ((rd ((rd_T61 l0_1 x5_1).f0) x7_2)).toNat) = some (.int .i64 (rd l1 (rd ((rd_T61 l0_1 x5_1).f0) x7_2))) ∧ w'.cell? (ad623.add ((x7_2).toNat * 2)) = some (.int .i64 ((rd_T26 ((rd_T61 l0_1 x5_1).f1) x7_2).f0)) ∧ w'.cell? ⟨(ad623.add ((x7_2).toNat * 2)).block, (ad623.add ((x7_2).toNat * 2)).off + 1, none⟩ = some (.int .i64 ((rd_T26 ((rd_T61 l0_1 x5_1).f1) x7_2).f1)) ∧ w'.cell? (ad621.add (x7_2).toNat) = some (.int .i64 (rd ((rd_T61 l0_1 x5_1).f0) x7_2)) ∧ w'.cell? (ad622.add ((rd ((rd_T61 l0_1 x5_1).f0) x7_2)).toNat) = some (.int .i64 (rd l1 (rd ((rd_T61 l0_1 x5_1).f0) x7_2)))) (ds := []) (Array.replicate 42 false) zk rfl rfl ⟨vb BK620 0, vb BK620 1, (ve HB.out hw621_0 :), (ve HB.out hw622_0 :), (ve HB.out hw623_0 :), (ve HB.out hw623_1 :), (ve HB.out hw624_0 :), (ve HB.out hw625_0 :), (ve HB.out hw626_0 :), (ve HB.out hw626_1 :), (ve HB.out hw627_0 :), (ve HB.out hw628_0 :)⟩ (fun hHeld => ?_); refine with_tabW saronlaw01_tuned.tab8 saronlaw01_tuned.bits8 (fun HT_ HW_ => ?_)
                 generalize wr.drew = w24 at BK618 BK620 HB hx621_0 hx622_0 hx623_0 hx623_1 hx624_0 hx625_0 hx626_0 hx626_1 hx627_0 hx628_0 hHeld ⊢
                 refine zu 0 ?_
                 refine zu 1 ?_
                 refine zu 3 ?_
                 refine zu 4 ?_
                 refine zu 10 ?_
                 refine zu 12 ?_
                 refine zu 16 ?_
                 refine zu 17 ?_
                 refine zu 19 ?_
                 refine zu 25 ?_
                 refine zu 27 ?_
                 refine zu 31 ?_
                 refine zu 32 ?_
                 refine zu 34 ?_
                 refine zt 2 ?_
                 refine zu 5 ?_
                 refine zt 6 ?_
                 refine zu 7 ?_
                 refine zt 8 ?_
                 refine zu 9 ?_
                 refine zt 11 ?_
                 refine zu 13 ?_
                 refine zu 14 ?_
                 refine zt 15 ?_
                 refine zt 18 ?_
                 refine zu 20 ?_
                 refine zt 21 ?_
                 refine zu 22 ?_
                 refine zt 23 ?_
                 refine zu 24 ?_
                 refine zt 26 ?_
                 refine zu 28 ?_
                 refine zu 29 ?_
                 refine zt 30 ?_
                 refine zt 33 ?_
                 refine zu 35 ?_
                 refine zt 36 ?_
                 refine zu 37 ?_
                 refine zt 38 ?_
                 refine zu 39 ?_
                 refine zo 40 (fun K hK => ?_)
                 refine goes_ Tryd.func59 zk rfl #[.int .i64 (wrap64 (1000 * (rd l1 (rd ((rd_T61 l0_1 x5_1).f0) (ji11))))), .int .i64 (wrap64 (((rd_T26 ((rd_T61 l0_1 x5_1).f1) x7_2).f0) * (rd l1 (rd ((rd_T61 l0_1 x5_1).f0) x7_2)))), .int .i64 (wrap64 (((rd_T26 ((rd_T61 l0_1 x5_1).f1) x7_2).f1) * (rd l1 (rd ((rd_T61 l0_1 x5_1).f0) x7_2))))] (by rfl) rfl rfl (by (try simp only [List.map_toArray, List.map_cons, List.map_nil]); first | done | (simp only [hji11]; rfl) | rfl | (simp only [List.length_drop, List.length_take]; rfl)) ?_
                 with_reducible refine (saronref00_Sits.calls (wrap64 (1000 * (rd l1 (rd ((rd_T61 l0_1 x5_1).f0) (ji11))))) (wrap64 (((rd_T26 ((rd_T61 l0_1 x5_1).f1) x7_2).f0) * (rd l1 (rd ((rd_T61 l0_1 x5_1).f0) x7_2)))) (wrap64 (((rd_T26 ((rd_T61 l0_1 x5_1).f1) x7_2).f1) * (rd l1 (rd ((rd_T61 l0_1 x5_1).f0) x7_2)))) true _ A20.out).mono ?_
                 rintro e w' ⟨rfl, ⟨nd, rfl⟩⟩
                 refine ⟨_, rfl, ?_⟩
                 refine hK.out _ _ ⟨vb BK620 0, vb BK620 1, (ve HB.out hw621_0 :), (ve HB.out hw622_0 :), (ve HB.out hw623_0 :), (ve HB.out hw623_1 :), (ve HB.out hw624_0 :), (ve HB.out hw625_0 :), (ve HB.out hw626_0 :), (ve HB.out hw626_1 :), (ve HB.out hw627_0 :), (ve HB.out hw628_0 :)⟩ (fun hHeld => ?_)
                 clear hK K
                 refine zr 68 _ ?_
                 refine zu 41 ?_
                 refine zd ?_
                 try go_wp2
                 go_roundg k2
                 case measure => have := HK1.out; have := HK2.out; omega
                 case rel => exact ⟨(ji11), (by first | rfl | (simp; done) | (simp only [← hji11] <;> (first | rfl | simp)) | (simp [*]; done)), H', ⟨zw HK1 HK2⟩, ⟨zc BK618⟩, ⟨zc BK620⟩, ⟨zb⟩⟩
                ·replace c21 := Bool.eq_false_iff.mpr c21
                 subst c21
                 have H1 : (some false) = some r := by rw [if_neg (show ¬ (false = true) by decide)] at H; exact H
                 clear H
                 have H := H1
                 clear H1
                 obtain rfl := Option.some.inj H
                 have hnb25 := NB620_618.out
                 have hnc25 := NB618_620.out
                 obtain ⟨hcz26_0, hcz26_1⟩ := zC2 BK620.out
                 obtain ⟨hfz26_0, hfz26_1⟩ := zF2 BK620.out
                 try go_wp2
                 replace BK618 := zh (blk_drew BK618.out)
                 replace BK620 := zh (blk_drew BK620.out)
                 replace HB := zh (below_drew1 HB.out)
                 have p621 : 0 ≤ ((ji11) : Int) := of_decide_eq_true zs
                 have q621 : (ji11) < (((rd_T61 l0_1 x5_1).f0).length : Int) := of_decide_eq_true zs
                 obtain ⟨ad621, e621, hx621_0⟩ := Kd.at_int HR619_0.out (ji11) p621 q621
                 have hw621_0 := hx621_0
                 cases e621
                 replace hx621_0 := ve HB.out hx621_0
                 replace p621 := eq_true p621
                 replace q621 := eq_true q621
                 have p622 : 0 ≤ ((rd ((rd_T61 l0_1 x5_1).f0) (ji11)) : Int) := of_decide_eq_true zs
                 have q622 : (rd ((rd_T61 l0_1 x5_1).f0) (ji11)) < (l1.length : Int) := of_decide_eq_true zs
                 obtain ⟨ad622, e622, hx622_0⟩ := Kd.at_int HR1.out (rd ((rd_T61 l0_1 x5_1).f0) (ji11)) p622 q622
                 have hw622_0 := hx622_0
                 cases e622
                 replace hx622_0 := ve HB.out hx622_0
                 replace p622 := eq_true p622
                 replace q622 := eq_true q622
                 have p623 : 0 ≤ (x7_2 : Int) := of_decide_eq_true zs
                 have q623 : x7_2 < (((rd_T61 l0_1 x5_1).f1).length : Int) := of_decide_eq_true zs
                 obtain ⟨ad623, e623, hx623_0, hx623_1⟩ := at_T26 HR619_1.out x7_2 p623 q623
                 have hw623_1 := hx623_1
                 have hw623_0 := hx623_0
                 cases e623
                 replace hx623_0 := ve HB.out hx623_0
                 replace hx623_1 := ve HB.out hx623_1
                 replace p623 := eq_true p623
                 replace q623 := eq_true q623
                 have p624 : 0 ≤ (x7_2 : Int) := of_decide_eq_true zs
                 have q624 : x7_2 < (((rd_T61 l0_1 x5_1).f0).length : Int) := of_decide_eq_true zs
                 obtain ⟨ad624, e624, hx624_0⟩ := Kd.at_int HR619_0.out x7_2 p624 q624
                 have hw624_0 := hx624_0
                 obtain rfl : ad621 = ad624 := (by injection e624)
                 replace hx624_0 := ve HB.out hx624_0
                 replace p624 := eq_true p624
                 replace q624 := eq_true q624
                 have p625 : 0 ≤ ((rd ((rd_T61 l0_1 x5_1).f0) x7_2) : Int) := of_decide_eq_true zs
                 have q625 : (rd ((rd_T61 l0_1 x5_1).f0) x7_2) < (l1.length : Int) := of_decide_eq_true zs
                 obtain ⟨ad625, e625, hx625_0⟩ := Kd.at_int HR1.out (rd ((rd_T61 l0_1 x5_1).f0) x7_2) p625 q625
                 have hw625_0 := hx625_0
                 obtain rfl : ad622 = ad625 := (by injection e625)
                 replace hx625_0 := ve HB.out hx625_0
                 replace p625 := eq_true p625
                 replace q625 := eq_true q625
                 have p626 : 0 ≤ (x7_2 : Int) := of_decide_eq_true zs
                 have q626 : x7_2 < (((rd_T61 l0_1 x5_1).f1).length : Int) := of_decide_eq_true zs
                 obtain ⟨ad626, e626, hx626_0, hx626_1⟩ := at_T26 HR619_1.out x7_2 p626 q626
                 have hw626_1 := hx626_1
                 have hw626_0 := hx626_0
                 obtain rfl : ad623 = ad626 := (by injection e626)
                 replace hx626_0 := ve HB.out hx626_0
                 replace hx626_1 := ve HB.out hx626_1
                 replace p626 := eq_true p626
                 replace q626 := eq_true q626
                 have p627 : 0 ≤ (x7_2 : Int) := of_decide_eq_true zs
                 have q627 : x7_2 < (((rd_T61 l0_1 x5_1).f0).length : Int) := of_decide_eq_true zs
                 obtain ⟨ad627, e627, hx627_0⟩ := Kd.at_int HR619_0.out x7_2 p627 q627
                 have hw627_0 := hx627_0
                 obtain rfl : ad621 = ad627 := (by injection e627)
                 replace hx627_0 := ve HB.out hx627_0
                 replace p627 := eq_true p627
                 replace q627 := eq_true q627
                 have p628 : 0 ≤ ((rd ((rd_T61 l0_1 x5_1).f0) x7_2) : Int) := of_decide_eq_true zs
                 have q628 : (rd ((rd_T61 l0_1 x5_1).f0) x7_2) < (l1.length : Int) := of_decide_eq_true zs
                 obtain ⟨ad628, e628, hx628_0⟩ := Kd.at_int HR1.out (rd ((rd_T61 l0_1 x5_1).f0) x7_2) p628 q628
                 have hw628_0 := hx628_0
                 obtain rfl : ad622 = ad628 := (by injection e628)
                 replace hx628_0 := ve HB.out hx628_0
                 replace p628 := eq_true p628
                 replace q628 := eq_true q628
                 refine start_ (n := 42) (S := fun w' => w'.cell? ⟨gb620, 0, none⟩ = some (.slice (some ad621) ((rd_T61 l0_1 x5_1).f0).length c619_0) ∧ w'.cell? ⟨gb620, 1, none⟩ = some (.slice (some ad623) ((rd_T61 l0_1 x5_1).f1).length c619_1) ∧ w'.cell? (ad621.add ((ji11)).toNat) = some (.int .i64 (rd ((rd_T61 l0_1 x5_1).f0) (ji11))) ∧ w'.cell? (ad622.add ((rd ((rd_T61 l0_1 x5_1).f0) (ji11))).toNat) = some (.int .i64 (rd l1 (rd ((rd_T61 l0_1 x5_1).f0) (ji11)))) ∧ w'.cell? (ad623.add ((x7_2).toNat * 2)) = some (.int .i64 ((rd_T26 ((rd_T61 l0_1 x5_1).f1) x7_2).f0)) ∧ w'.cell? ⟨(ad623.add ((x7_2).toNat * 2)).block, (ad623.add ((x7_2).toNat * 2)).off + 1, none⟩ = some (.int .i64 ((rd_T26 ((rd_T61 l0_1 x5_1).f1) x7_2).f1)) ∧ w'.cell? (ad621.add (x7_2).toNat) = some (.int .i64 (rd ((rd_T61 l0_1 x5_1).f0) x7_2)) ∧ w'.cell? (ad622.add ((rd ((rd_T61 l0_1 x5_1).f0) x7_2)).toNat) = some (.int .i64 (rd l1 (rd ((rd_T61 l0_1 x5_1).f0) x7_2))) ∧ w'.cell? (ad623.add ((x7_2).toNat * 2)) = some (.int .i64 ((rd_T26 ((rd_T61 l0_1 x5_1).f1) x7_2).f0)) ∧ w'.cell? ⟨(ad623.add ((x7_2).toNat * 2)).block, (ad623.add ((x7_2).toNat * 2)).off + 1, none⟩ = some (.int .i64 ((rd_T26 ((rd_T61 l0_1 x5_1).f1) x7_2).f1)) ∧ w'.cell? (ad621.add (x7_2).toNat) = some (.int .i64 (rd ((rd_T61 l0_1 x5_1).f0) x7_2)) ∧ w'.cell? (ad622.add ((rd ((rd_T61 l0_1 x5_1).f0) x7_2)).toNat) = some (.int .i64 (rd l1 (rd ((rd_T61 l0_1 x5_1).f0) x7_2)))) (ds := []) (Array.replicate 42 false) zk rfl rfl ⟨vb BK620 0, vb BK620 1, (ve HB.out hw621_0 :), (ve HB.out hw622_0 :), (ve HB.out hw623_0 :), (ve HB.out hw623_1 :), (ve HB.out hw624_0 :), (ve HB.out hw625_0 :), (ve HB.out hw626_0 :), (ve HB.out hw626_1 :), (ve HB.out hw627_0 :), (ve HB.out hw628_0 :)⟩ (fun hHeld => ?_); refine with_tabW saronlaw01_tuned.tab8 saronlaw01_tuned.bits8 (fun HT_ HW_ => ?_)
                 generalize wr.drew = w27 at BK618 BK620 HB hx621_0 hx622_0 hx623_0 hx623_1 hx624_0 hx625_0 hx626_0 hx626_1 hx627_0 hx628_0 hHeld ⊢
                 refine zu 0 ?_
                 refine zu 1 ?_
                 refine zu 3 ?_
                 refine zu 4 ?_
                 refine zu 10 ?_
                 refine zu 12 ?_
                 refine zu 16 ?_
                 refine zu 17 ?_
                 refine zu 19 ?_
                 refine zu 25 ?_
                 refine zu 27 ?_
                 refine zu 31 ?_
                 refine zu 32 ?_
                 refine zu 34 ?_
                 refine zt 2 ?_
                 refine zu 5 ?_
                 refine zt 6 ?_
                 refine zu 7 ?_
                 refine zt 8 ?_
                 refine zu 9 ?_
                 refine zt 11 ?_
                 refine zu 13 ?_
                 refine zu 14 ?_
                 refine zt 15 ?_
                 refine zt 18 ?_
                 refine zu 20 ?_
                 refine zt 21 ?_
                 refine zu 22 ?_
                 refine zt 23 ?_
                 refine zu 24 ?_
                 refine zt 26 ?_
                 refine zu 28 ?_
                 refine zu 29 ?_
                 refine zt 30 ?_
                 refine zt 33 ?_
                 refine zu 35 ?_
                 refine zt 36 ?_
                 refine zu 37 ?_
                 refine zt 38 ?_
                 refine zu 39 ?_
                 refine zo 40 (fun K hK => ?_)
                 refine goes_ Tryd.func59 zk rfl #[.int .i64 (wrap64 (1000 * (rd l1 (rd ((rd_T61 l0_1 x5_1).f0) (ji11))))), .int .i64 (wrap64 (((rd_T26 ((rd_T61 l0_1 x5_1).f1) x7_2).f0) * (rd l1 (rd ((rd_T61 l0_1 x5_1).f0) x7_2)))), .int .i64 (wrap64 (((rd_T26 ((rd_T61 l0_1 x5_1).f1) x7_2).f1) * (rd l1 (rd ((rd_T61 l0_1 x5_1).f0) x7_2))))] (by rfl) rfl rfl (by (try simp only [List.map_toArray, List.map_cons, List.map_nil]); first | done | (simp only [hji11]; rfl) | rfl | (simp only [List.length_drop, List.length_take]; rfl)) ?_
                 with_reducible refine (saronref00_Sits.calls (wrap64 (1000 * (rd l1 (rd ((rd_T61 l0_1 x5_1).f0) (ji11))))) (wrap64 (((rd_T26 ((rd_T61 l0_1 x5_1).f1) x7_2).f0) * (rd l1 (rd ((rd_T61 l0_1 x5_1).f0) x7_2)))) (wrap64 (((rd_T26 ((rd_T61 l0_1 x5_1).f1) x7_2).f1) * (rd l1 (rd ((rd_T61 l0_1 x5_1).f0) x7_2)))) false _ A20.out).mono ?_
                 rintro e w' ⟨rfl, ⟨nd, rfl⟩⟩
                 refine ⟨_, rfl, ?_⟩
                 refine hK.out _ _ ⟨vb BK620 0, vb BK620 1, (ve HB.out hw621_0 :), (ve HB.out hw622_0 :), (ve HB.out hw623_0 :), (ve HB.out hw623_1 :), (ve HB.out hw624_0 :), (ve HB.out hw625_0 :), (ve HB.out hw626_0 :), (ve HB.out hw626_1 :), (ve HB.out hw627_0 :), (ve HB.out hw628_0 :)⟩ (fun hHeld => ?_)
                 clear hK K
                 refine zr 68 _ ?_
                 refine zu 41 ?_
                 refine zd ?_
                 try go_wp2
                 go_ret
                 exact ⟨by first | rfl | (simp [errW_none, errW_some] <;> rfl) | (simp only [← hji11]; first | rfl | (simp [errW_none, errW_some] <;> rfl)) | (simp [*, errW_none, errW_some] <;> rfl), zb⟩
               ·rw [if_neg c19] at H
                exact absurd H (by simp)
              ·rw [if_neg c18] at H
               exact absurd H (by simp)
             ·rw [if_neg c17] at H
              exact absurd H (by simp)
            ·rw [if_neg c16] at H
             exact absurd H (by simp)
           ·rw [if_neg c15] at H
            exact absurd H (by simp)
          ·rw [if_neg c14] at H
           exact absurd H (by simp)
         ·rw [if_neg c13] at H
          exact absurd H (by simp)
        ·rw [if_neg c12] at H
         exact absurd H (by simp)
       ·rw [if_neg c10] at H
        have c10b0 : decide (x7_2 < (((rd_T61 l0_1 x5_1).f1).length : Int)) = false := decide_eq_false c10
        clear c10
        have H' := zh H
        clear H
        have hnb28 := NB620_618.out
        have hnc28 := NB618_620.out
        obtain ⟨hcz29_0, hcz29_1⟩ := zC2 BK620.out
        obtain ⟨hfz29_0, hfz29_1⟩ := zF2 BK620.out
        go_wp2
        go_roundg k2
        case measure => have := HK1.out; have := HK2.out; omega
        case rel => exact ⟨(wrap64 (x5_1 + 1)), ze, H', ⟨zw HK1 HK2⟩, ⟨zc BK618⟩, ⟨zb⟩⟩
    ·rw [if_neg c5] at H
     exact absurd H (by simp)
   ·rw [if_neg c4] at H
    have c4b0 : decide (x5_1 < (l0_1.length : Int)) = false := decide_eq_false c4
    clear c4
    have H' := zh H
    clear H
    obtain ⟨hcz30_0, hcz30_1, hcz30_2, hcz30_3, hcz30_4⟩ := zC5 BK618.out
    obtain ⟨hfz30_0, hfz30_1, hfz30_2, hfz30_3, hfz30_4⟩ := zF5 BK618.out
    go_wp2
    go_loopg [8] k1 (fun kq v8 w' => ∃ (x8_2 : Int), v8 = .int .i64 x8_2 ∧ Aside0 (saronlaw01_tuned.l2 kq l1 x8_2 l0_0 l0_1 l0_2 a0_3 a0_4 = some r) ∧ Aside0 (kq ≤ k1) ∧ Aside0 (w'.heap[gb618]? = some (.cells #[(.slice A0_0 l0_0.length c0_0), (.slice A0_1 l0_1.length c0_1), (.slice A0_2 l0_2.length c0_2), .int .i64 a0_3, .int .i64 a0_4] 28 (0, 0))) ∧ Aside0 (Below w.heap.size w w'))
    case atStart => exact ⟨(0), ze, H', ⟨Nat.le_refl _⟩, ⟨zc BK618⟩, ⟨zb⟩⟩
    case round =>
     clear H'
     try clear c1
     try clear c2
     try clear p2
     try clear c4
     try clear c4b0
     try clear c5
     try clear c6
     try clear p6
     try clear q6
     try clear hx6
     try clear c10
     try clear c10b0
     try clear c12
     try clear c13
     try clear c14
     try clear c15
     try clear c16
     try clear c17
     try clear c18
     try clear c19
     try clear c21
     try clear c25
     try clear c28
     try clear hcz26_0
     try clear hcz26_1
     try clear hcz29_0
     try clear hcz29_1
     try clear hcz30_0
     try clear hcz30_1
     try clear hcz30_2
     try clear hcz30_3
     try clear hcz30_4
     try clear hfz26_0
     try clear hfz26_1
     try clear hfz29_0
     try clear hfz29_1
     try clear hfz30_0
     try clear hfz30_1
     try clear hfz30_2
     try clear hfz30_3
     try clear hfz30_4
     try clear hx621_0
     try clear hx622_0
     try clear hx623_0
     try clear hx623_1
     try clear hx624_0
     try clear hx625_0
     try clear hx626_0
     try clear hx626_1
     try clear hx627_0
     try clear hx628_0
     try clear p621
     try clear p622
     try clear p623
     try clear p624
     try clear p625
     try clear p626
     try clear p627
     try clear p628
     try clear q621
     try clear q622
     try clear q623
     try clear q624
     try clear q625
     try clear q626
     try clear q627
     try clear q628
     obtain ⟨x8_2, rfl, HA, HK2, BK618, HB⟩ := hrel
     cases gk with
     | zero => exact absurd HA.out (by simp [saronlaw01_tuned.l2])
     | succ k2 =>
      have H := HA.out
      clear HA
      simp only [saronlaw01_tuned.l2] at H
      by_cases c31 : x8_2 < (l0_2.length : Int)
      ·rw [if_pos c31] at H
       have c31b0 : decide (x8_2 < (l0_2.length : Int)) = true := decide_eq_true c31
       clear c31
       by_cases c32 : 0 ≤ x8_2
       ·rw [if_pos c32] at H
        have c32b0 : decide (0 ≤ x8_2) = true := decide_eq_true c32
        clear c32
        by_cases c33 : 0 ≤ ((rd_T48 l0_2 x8_2).f1)
        ·rw [if_pos c33] at H
         have c33b0 : decide (0 ≤ ((rd_T48 l0_2 x8_2).f1)) = true := decide_eq_true c33
         clear c33
         by_cases c34 : ((rd_T48 l0_2 x8_2).f1) < (l1.length : Int)
         ·rw [if_pos c34] at H
          have c34b0 : decide (((rd_T48 l0_2 x8_2).f1) < (l1.length : Int)) = true := decide_eq_true c34
          clear c34
          by_cases c35 : 0 ≤ ((rd_T48 l0_2 x8_2).f0)
          ·rw [if_pos c35] at H
           have c35b0 : decide (0 ≤ ((rd_T48 l0_2 x8_2).f0)) = true := decide_eq_true c35
           clear c35
           by_cases c36 : ((rd_T48 l0_2 x8_2).f0) < (l1.length : Int)
           ·rw [if_pos c36] at H
            have c36b0 : decide (((rd_T48 l0_2 x8_2).f0) < (l1.length : Int)) = true := decide_eq_true c36
            clear c36
            replace H := Option.bind_eq_some_iff.mp H
            obtain ⟨t634, A370, H⟩ := H
            replace H : (if t634 = true then (saronlaw01_tuned.l2 k2 l1 (wrap64 (x8_2 + 1)) l0_0 l0_1 l0_2 a0_3 a0_4) else (some false)) = some r := H
            have A37 := zh A370
            clear A370
            by_cases c38 : t634 = true
            ·subst c38
             have H1 : (saronlaw01_tuned.l2 k2 l1 (wrap64 (x8_2 + 1)) l0_0 l0_1 l0_2 a0_3 a0_4) = some r := by rw [if_pos rfl] at H; exact H
             clear H
             have H := H1
             clear H1
             have H' := zh H
             clear H
             obtain ⟨hcz39_0, hcz39_1, hcz39_2, hcz39_3, hcz39_4⟩ := zC5 BK618.out
             obtain ⟨hfz39_0, hfz39_1, hfz39_2, hfz39_3, hfz39_4⟩ := zF5 BK618.out
             try go_wp2
             replace BK618 := zh (blk_drew BK618.out)
             replace HB := zh (below_drew1 HB.out)
             have p630 : 0 ≤ (x8_2 : Int) := of_decide_eq_true zs
             have q630 : x8_2 < (l0_2.length : Int) := of_decide_eq_true zs
             obtain ⟨ad630, e630, hx630_0, hx630_1⟩ := at_T48 HR0_2.out x8_2 p630 q630
             have hw630_1 := hx630_1
             have hw630_0 := hx630_0
             cases e630
             replace hx630_0 := ve HB.out hx630_0
             replace hx630_1 := ve HB.out hx630_1
             replace p630 := eq_true p630
             replace q630 := eq_true q630
             have p631 : 0 ≤ (((rd_T48 l0_2 x8_2).f1) : Int) := of_decide_eq_true zs
             have q631 : ((rd_T48 l0_2 x8_2).f1) < (l1.length : Int) := of_decide_eq_true zs
             obtain ⟨ad631, e631, hx631_0⟩ := Kd.at_int HR1.out ((rd_T48 l0_2 x8_2).f1) p631 q631
             have hw631_0 := hx631_0
             cases e631
             replace hx631_0 := ve HB.out hx631_0
             replace p631 := eq_true p631
             replace q631 := eq_true q631
             have p632 : 0 ≤ (x8_2 : Int) := of_decide_eq_true zs
             have q632 : x8_2 < (l0_2.length : Int) := of_decide_eq_true zs
             obtain ⟨ad632, e632, hx632_0, hx632_1⟩ := at_T48 HR0_2.out x8_2 p632 q632
             have hw632_1 := hx632_1
             have hw632_0 := hx632_0
             obtain rfl : ad630 = ad632 := (by injection e632)
             replace hx632_0 := ve HB.out hx632_0
             replace hx632_1 := ve HB.out hx632_1
             replace p632 := eq_true p632
             replace q632 := eq_true q632
             have p633 : 0 ≤ (((rd_T48 l0_2 x8_2).f0) : Int) := of_decide_eq_true zs
             have q633 : ((rd_T48 l0_2 x8_2).f0) < (l1.length : Int) := of_decide_eq_true zs
             obtain ⟨ad633, e633, hx633_0⟩ := Kd.at_int HR1.out ((rd_T48 l0_2 x8_2).f0) p633 q633
             have hw633_0 := hx633_0
             obtain rfl : ad631 = ad633 := (by injection e633)
             replace hx633_0 := ve HB.out hx633_0
             replace p633 := eq_true p633
             replace q633 := eq_true q633
             refine start_ (n := 23) (S := fun w' => w'.cell? ⟨gb618, 0, none⟩ = some (.slice A0_0 l0_0.length c0_0) ∧ w'.cell? ⟨gb618, 1, none⟩ = some (.slice A0_1 l0_1.length c0_1) ∧ w'.cell? ⟨gb618, 2, none⟩ = some (.slice (some ad630) l0_2.length c0_2) ∧ w'.cell? ⟨gb618, 3, none⟩ = some (.int .i64 a0_3) ∧ w'.cell? ⟨gb618, 4, none⟩ = some (.int .i64 a0_4) ∧ w'.cell? (ad630.add ((x8_2).toNat * 2)) = some (.int .i64 ((rd_T48 l0_2 x8_2).f0)) ∧ w'.cell? ⟨(ad630.add ((x8_2).toNat * 2)).block, (ad630.add ((x8_2).toNat * 2)).off + 1, none⟩ = some (.int .i64 ((rd_T48 l0_2 x8_2).f1)) ∧ w'.cell? (ad631.add (((rd_T48 l0_2 x8_2).f1)).toNat) = some (.int .i64 (rd l1 ((rd_T48 l0_2 x8_2).f1))) ∧ w'.cell? (ad630.add ((x8_2).toNat * 2)) = some (.int .i64 ((rd_T48 l0_2 x8_2).f0)) ∧ w'.cell? ⟨(ad630.add ((x8_2).toNat * 2)).block, (ad630.add ((x8_2).toNat * 2)).off + 1, none⟩ = some (.int .i64 ((rd_T48 l0_2 x8_2).f1)) ∧ w'.cell? (ad631.add (((rd_T48 l0_2 x8_2).f0)).toNat) = some (.int .i64 (rd l1 ((rd_T48 l0_2 x8_2).f0)))) (ds := []) (Array.replicate 23 false) zk rfl rfl ⟨vb BK618 0, vb BK618 1, vb BK618 2, vb BK618 3, vb BK618 4, (ve HB.out hw630_0 :), (ve HB.out hw630_1 :), (ve HB.out hw631_0 :), (ve HB.out hw632_0 :), (ve HB.out hw632_1 :), (ve HB.out hw633_0 :)⟩ (fun hHeld => ?_); refine with_tabW saronlaw01_tuned.tab13 saronlaw01_tuned.bits13 (fun HT_ HW_ => ?_)
             generalize wr.drew = w40 at BK618 HB hx630_0 hx630_1 hx631_0 hx632_0 hx632_1 hx633_0 hHeld ⊢
             refine zu 0 ?_
             refine zu 2 ?_
             refine zu 3 ?_
             refine zu 5 ?_
             refine zu 11 ?_
             refine zu 12 ?_
             refine zu 14 ?_
             refine zt 1 ?_
             refine zt 4 ?_
             refine zu 6 ?_
             refine zu 7 ?_
             refine zt 8 ?_
             refine zu 9 ?_
             refine zt 10 ?_
             refine zt 13 ?_
             refine zu 15 ?_
             refine zu 16 ?_
             refine zt 17 ?_
             refine zu 18 ?_
             refine zt 19 ?_
             refine zu 20 ?_
             refine zo 21 (fun K hK => ?_)
             refine goes_ Tryd.func40 zk rfl #[.agg #[.int .i64 a0_3, .int .i64 a0_4], .int .i64 (wrap64 ((rd l1 ((rd_T48 l0_2 x8_2).f1)) - (rd l1 ((rd_T48 l0_2 x8_2).f0))))] (by rfl) rfl rfl zm ?_
             with_reducible refine (saronref00_Bears.calls a0_3 a0_4 (wrap64 ((rd l1 ((rd_T48 l0_2 x8_2).f1)) - (rd l1 ((rd_T48 l0_2 x8_2).f0)))) true _ A37.out).mono ?_
             rintro e w41 ⟨rfl, hb⟩
             refine ⟨_, rfl, ?_⟩
             have n0_ := zX BK618 hb
             have n1_ := zh (below_step zb hb)
             clear BK618 HB
             have BK618 := n0_
             have HB := n1_
             clear n0_ n1_
             (try clear hb)
             (try clear hb2)
             (try clear hk)
             (try clear hi)
             refine hK.out _ _ ⟨vb BK618 0, vb BK618 1, vb BK618 2, vb BK618 3, vb BK618 4, (ve HB.out hw630_0 :), (ve HB.out hw630_1 :), (ve HB.out hw631_0 :), (ve HB.out hw632_0 :), (ve HB.out hw632_1 :), (ve HB.out hw633_0 :)⟩ (fun hHeld => ?_)
             clear hK K
             refine zr 98 _ ?_
             refine zu 22 ?_
             refine zd ?_
             try go_wp2
             go_roundg k2
             case measure => have := HK1.out; have := HK2.out; omega
             case rel => exact ⟨(wrap64 (x8_2 + 1)), ze, H', ⟨zw HK1 HK2⟩, ⟨zc BK618⟩, ⟨zb⟩⟩
            ·replace c38 := Bool.eq_false_iff.mpr c38
             subst c38
             have H1 : (some false) = some r := by rw [if_neg (show ¬ (false = true) by decide)] at H; exact H
             clear H
             have H := H1
             clear H1
             obtain rfl := Option.some.inj H
             obtain ⟨hcz42_0, hcz42_1, hcz42_2, hcz42_3, hcz42_4⟩ := zC5 BK618.out
             obtain ⟨hfz42_0, hfz42_1, hfz42_2, hfz42_3, hfz42_4⟩ := zF5 BK618.out
             try go_wp2
             replace BK618 := zh (blk_drew BK618.out)
             replace HB := zh (below_drew1 HB.out)
             have p630 : 0 ≤ (x8_2 : Int) := of_decide_eq_true zs
             have q630 : x8_2 < (l0_2.length : Int) := of_decide_eq_true zs
             obtain ⟨ad630, e630, hx630_0, hx630_1⟩ := at_T48 HR0_2.out x8_2 p630 q630
             have hw630_1 := hx630_1
             have hw630_0 := hx630_0
             cases e630
             replace hx630_0 := ve HB.out hx630_0
             replace hx630_1 := ve HB.out hx630_1
             replace p630 := eq_true p630
             replace q630 := eq_true q630
             have p631 : 0 ≤ (((rd_T48 l0_2 x8_2).f1) : Int) := of_decide_eq_true zs
             have q631 : ((rd_T48 l0_2 x8_2).f1) < (l1.length : Int) := of_decide_eq_true zs
             obtain ⟨ad631, e631, hx631_0⟩ := Kd.at_int HR1.out ((rd_T48 l0_2 x8_2).f1) p631 q631
             have hw631_0 := hx631_0
             cases e631
             replace hx631_0 := ve HB.out hx631_0
             replace p631 := eq_true p631
             replace q631 := eq_true q631
             have p632 : 0 ≤ (x8_2 : Int) := of_decide_eq_true zs
             have q632 : x8_2 < (l0_2.length : Int) := of_decide_eq_true zs
             obtain ⟨ad632, e632, hx632_0, hx632_1⟩ := at_T48 HR0_2.out x8_2 p632 q632
             have hw632_1 := hx632_1
             have hw632_0 := hx632_0
             obtain rfl : ad630 = ad632 := (by injection e632)
             replace hx632_0 := ve HB.out hx632_0
             replace hx632_1 := ve HB.out hx632_1
             replace p632 := eq_true p632
             replace q632 := eq_true q632
             have p633 : 0 ≤ (((rd_T48 l0_2 x8_2).f0) : Int) := of_decide_eq_true zs
             have q633 : ((rd_T48 l0_2 x8_2).f0) < (l1.length : Int) := of_decide_eq_true zs
             obtain ⟨ad633, e633, hx633_0⟩ := Kd.at_int HR1.out ((rd_T48 l0_2 x8_2).f0) p633 q633
             have hw633_0 := hx633_0
             obtain rfl : ad631 = ad633 := (by injection e633)
             replace hx633_0 := ve HB.out hx633_0
             replace p633 := eq_true p633
             replace q633 := eq_true q633
             refine start_ (n := 23) (S := fun w' => w'.cell? ⟨gb618, 0, none⟩ = some (.slice A0_0 l0_0.length c0_0) ∧ w'.cell? ⟨gb618, 1, none⟩ = some (.slice A0_1 l0_1.length c0_1) ∧ w'.cell? ⟨gb618, 2, none⟩ = some (.slice (some ad630) l0_2.length c0_2) ∧ w'.cell? ⟨gb618, 3, none⟩ = some (.int .i64 a0_3) ∧ w'.cell? ⟨gb618, 4, none⟩ = some (.int .i64 a0_4) ∧ w'.cell? (ad630.add ((x8_2).toNat * 2)) = some (.int .i64 ((rd_T48 l0_2 x8_2).f0)) ∧ w'.cell? ⟨(ad630.add ((x8_2).toNat * 2)).block, (ad630.add ((x8_2).toNat * 2)).off + 1, none⟩ = some (.int .i64 ((rd_T48 l0_2 x8_2).f1)) ∧ w'.cell? (ad631.add (((rd_T48 l0_2 x8_2).f1)).toNat) = some (.int .i64 (rd l1 ((rd_T48 l0_2 x8_2).f1))) ∧ w'.cell? (ad630.add ((x8_2).toNat * 2)) = some (.int .i64 ((rd_T48 l0_2 x8_2).f0)) ∧ w'.cell? ⟨(ad630.add ((x8_2).toNat * 2)).block, (ad630.add ((x8_2).toNat * 2)).off + 1, none⟩ = some (.int .i64 ((rd_T48 l0_2 x8_2).f1)) ∧ w'.cell? (ad631.add (((rd_T48 l0_2 x8_2).f0)).toNat) = some (.int .i64 (rd l1 ((rd_T48 l0_2 x8_2).f0)))) (ds := []) (Array.replicate 23 false) zk rfl rfl ⟨vb BK618 0, vb BK618 1, vb BK618 2, vb BK618 3, vb BK618 4, (ve HB.out hw630_0 :), (ve HB.out hw630_1 :), (ve HB.out hw631_0 :), (ve HB.out hw632_0 :), (ve HB.out hw632_1 :), (ve HB.out hw633_0 :)⟩ (fun hHeld => ?_); refine with_tabW saronlaw01_tuned.tab13 saronlaw01_tuned.bits13 (fun HT_ HW_ => ?_)
             generalize wr.drew = w43 at BK618 HB hx630_0 hx630_1 hx631_0 hx632_0 hx632_1 hx633_0 hHeld ⊢
             refine zu 0 ?_
             refine zu 2 ?_
             refine zu 3 ?_
             refine zu 5 ?_
             refine zu 11 ?_
             refine zu 12 ?_
             refine zu 14 ?_
             refine zt 1 ?_
             refine zt 4 ?_
             refine zu 6 ?_
             refine zu 7 ?_
             refine zt 8 ?_
             refine zu 9 ?_
             refine zt 10 ?_
             refine zt 13 ?_
             refine zu 15 ?_
             refine zu 16 ?_
             refine zt 17 ?_
             refine zu 18 ?_
             refine zt 19 ?_
             refine zu 20 ?_
             refine zo 21 (fun K hK => ?_)
             refine goes_ Tryd.func40 zk rfl #[.agg #[.int .i64 a0_3, .int .i64 a0_4], .int .i64 (wrap64 ((rd l1 ((rd_T48 l0_2 x8_2).f1)) - (rd l1 ((rd_T48 l0_2 x8_2).f0))))] (by rfl) rfl rfl zm ?_
             with_reducible refine (saronref00_Bears.calls a0_3 a0_4 (wrap64 ((rd l1 ((rd_T48 l0_2 x8_2).f1)) - (rd l1 ((rd_T48 l0_2 x8_2).f0)))) false _ A37.out).mono ?_
             rintro e w44 ⟨rfl, hb⟩
             refine ⟨_, rfl, ?_⟩
             have n0_ := zX BK618 hb
             have n1_ := zh (below_step zb hb)
             clear BK618 HB
             have BK618 := n0_
             have HB := n1_
             clear n0_ n1_
             (try clear hb)
             (try clear hb2)
             (try clear hk)
             (try clear hi)
             refine hK.out _ _ ⟨vb BK618 0, vb BK618 1, vb BK618 2, vb BK618 3, vb BK618 4, (ve HB.out hw630_0 :), (ve HB.out hw630_1 :), (ve HB.out hw631_0 :), (ve HB.out hw632_0 :), (ve HB.out hw632_1 :), (ve HB.out hw633_0 :)⟩ (fun hHeld => ?_)
             clear hK K
             refine zr 98 _ ?_
             refine zu 22 ?_
             refine zd ?_
             try go_wp2
             go_ret
             exact ⟨zf, zb⟩
           ·rw [if_neg c36] at H
            exact absurd H (by simp)
          ·rw [if_neg c35] at H
           exact absurd H (by simp)
         ·rw [if_neg c34] at H
          exact absurd H (by simp)
        ·rw [if_neg c33] at H
         exact absurd H (by simp)
       ·rw [if_neg c32] at H
        exact absurd H (by simp)
      ·rw [if_neg c31] at H
       have c31b0 : decide (x8_2 < (l0_2.length : Int)) = false := decide_eq_false c31
       clear c31
       obtain rfl := Option.some.inj H
       obtain ⟨hcz45_0, hcz45_1, hcz45_2, hcz45_3, hcz45_4⟩ := zC5 BK618.out
       obtain ⟨hfz45_0, hfz45_1, hfz45_2, hfz45_3, hfz45_4⟩ := zF5 BK618.out
       go_wp2
       go_ret
       exact ⟨zf, zb⟩
end Go.Proofs.YtgehkojccmkggaaDoor.H
end
section
namespace Go.Proofs.YtgehkojccmkggaaDoor.K
open Go.RowKit Go.Shelf Go.Proofs.YtgehkojccmkggaaDoorW.PrintWords Go.Proofs.YtgehkojccmkggaaDoorW.PrintLast Go.Proofs.YtgehkojccmkggaaDoorW.PrintMore Go.Proofs.YtgehkojccmkggaaDoor.H Tune
set_option linter.unusedVariables false
set_option linter.unusedSimpArgs false
theorem bears_f (a b n : Int) : saronref00_Bears.f a b n = some (decide (a ≤ n) && decide (n ≤ b)) := by
 unfold saronref00_Bears.f
 rw [sits_f]
 rfl
def Heard (n : Nat) (l : List Int) : Prop := l.length = n ∧ ∀ x ∈ l, 0 ≤ x ∧ x ≤ 4000
theorem Heard.at_ {n : Nat} {l : List Int} (hl : Heard n l) {k : Int} (hk : inK n k = true) : 0 ≤ k ∧ k < (l.length : Int) ∧ rd l k = l.getD k.toNat 0 ∧ 0 ≤ l.getD k.toNat 0 ∧ l.getD k.toNat 0 ≤ 4000 := by
 unfold inK at hk
 simp only [Bool.and_eq_true, decide_eq_true_eq] at hk
 obtain ⟨h1, h2⟩ := hl
 have h3 : k.toNat < l.length := by omega
 have h4 : l.getD k.toNat 0 ∈ l := by rw [show l.getD k.toNat 0 = l[k.toNat] by simp [List.getD_eq_getElem?_getD, h3]]; exact List.getElem_mem h3
 have h5 := h2 _ h4
 exact ⟨hk.1, by omega, rfl, h5.1, h5.2⟩
section
variable {h : List S26} {s : List S61} {p : List S48} {b0 b1 : Int} {l : List Int}
def fitQ (b0 b1 : Int) (l : List Int) (q : S80) : Bool := fitJ (b0, b1) l (toJ q)
theorem fit_pair (q : S48) : fitQ b0 b1 l (pairQ b0 b1 q) = (decide (b0 ≤ l.getD q.f1.toNat 0 - l.getD q.f0.toNat 0) && decide (l.getD q.f1.toNat 0 - l.getD q.f0.toNat 0 ≤ b1)) := rfl
theorem fit_step (x : S61) (i : Nat) : fitQ b0 b1 l (stepQ x i) = (decide ((x.f1.getD i z26).f0 * l.getD (x.f0.getD i 0).toNat 0 ≤ 1000 * l.getD (x.f0.getD (i + 1) 0).toNat 0) && decide (1000 * l.getD (x.f0.getD (i + 1) 0).toNat 0 ≤ (x.f1.getD i z26).f1 * l.getD (x.f0.getD i 0).toNat 0)) := rfl
theorem tuned_l2 (N : Neat h s p b0 b1) (hl : Heard h.length l) : ∀ (d i : Nat), i + d = p.length → ∃ k, saronlaw01_tuned.l2 k l (i : Int) h s p b0 b1 = some ((p.drop i).all fun q => fitQ b0 b1 l (pairQ b0 b1 q)) := by
 have hp := N.pairs
 intro d
 induction d with
 | zero =>
  intro i hi
  exact ⟨1, by rw [saronlaw01_tuned.l2, if_neg (by omega), List.drop_of_length_le (by omega)]; rfl⟩
 | succ d ih =>
  intro i hi
  obtain ⟨k, hk⟩ := ih (i + 1) (by omega)
  have hlt : i < p.length := by omega
  obtain ⟨q1, q2⟩ := N.pair _ (List.getElem_mem hlt)
  obtain ⟨a1, a2, a3, a4, a5⟩ := hl.at_ q1
  obtain ⟨c1, c2, c3, c4, c5⟩ := hl.at_ q2
  refine ⟨k + 1, ?_⟩
  rw [saronlaw01_tuned.l2, if_pos (by omega), if_pos (by omega), rd48_at _ _ hlt, if_pos c1, if_pos c2, if_pos a1, if_pos a2, a3, c3, w64 (by omega) (by omega), bears_f, List.drop_eq_getElem_cons hlt, List.all_cons, fit_pair, wsucc _ (by omega)]
  simp only [Option.bind_some]
  cases hb : (decide (b0 ≤ l.getD p[i].f1.toNat 0 - l.getD p[i].f0.toNat 0) && decide (l.getD p[i].f1.toNat 0 - l.getD p[i].f0.toNat 0 ≤ b1)) with
  | true => rw [if_pos rfl, hk]; rfl
  | false => rfl
theorem tuned_l1 (N : Neat h s p b0 b1) (hl : Heard h.length l) {i : Nat} (hi : i < s.length) {R : Bool} (hR : ∃ k, saronlaw01_tuned.l0 k l ((i + 1 : Nat) : Int) h s p b0 b1 = some R) : ∀ (d j : Nat), j + d = (s[i]).f1.length →
  ∃ k, saronlaw01_tuned.l1 k l (i : Int) (j : Int) h s p b0 b1 (s[i]).f0 (s[i]).f1 = some ((List.range' j d).all (fun m => fitQ b0 b1 l (stepQ s[i] m)) && R) := by
 have hn := N.few
 have hs := N.scales
 obtain ⟨s1, s2, s3, s4, s5⟩ := N.scale _ (List.getElem_mem hi)
 intro d
 induction d with
 | zero =>
  intro j hj
  obtain ⟨k, hk⟩ := hR
  exact ⟨k + 1, by rw [saronlaw01_tuned.l1, if_neg (by omega), wsucc _ (by omega), hk]; rfl⟩
 | succ d ih =>
  intro j hj
  obtain ⟨k, hk⟩ := ih (j + 1) (by omega)
  have h1 : j < (s[i]).f1.length := by omega
  have h2 : j < (s[i]).f0.length := by omega
  have h3 : j + 1 < (s[i]).f0.length := by omega
  have e1 : (s[i]).f1.getD j z26 = (s[i]).f1[j] := by simp [List.getD_eq_getElem?_getD, h1]
  have e2 : (s[i]).f0.getD j 0 = (s[i]).f0[j] := by simp [List.getD_eq_getElem?_getD, h2]
  have e3 : (s[i]).f0.getD (j + 1) 0 = (s[i]).f0[j + 1] := by simp [List.getD_eq_getElem?_getD, h3]
  obtain ⟨a1, a2, a3, a4, a5⟩ := hl.at_ (s4 _ (List.getElem_mem h2))
  obtain ⟨c1, c2, c3, c4, c5⟩ := hl.at_ (s4 _ (List.getElem_mem h3))
  have hsp := s5 _ (List.getElem_mem h1)
  unfold okSpan at hsp
  simp only [Bool.and_eq_true, decide_eq_true_eq] at hsp
  have m0 : 0 ≤ (s[i]).f1[j].f0 * l.getD ((s[i]).f0[j]).toNat 0 := Int.mul_nonneg (by omega) a4
  have m1 : 0 ≤ (s[i]).f1[j].f1 * l.getD ((s[i]).f0[j]).toNat 0 := Int.mul_nonneg (by omega) a4
  have m2 : (s[i]).f1[j].f0 * l.getD ((s[i]).f0[j]).toNat 0 ≤ 5000 * 4000 := Int.mul_le_mul (by omega) a5 a4 (by omega)
  have m3 : (s[i]).f1[j].f1 * l.getD ((s[i]).f0[j]).toNat 0 ≤ 5000 * 4000 := Int.mul_le_mul (by omega) a5 a4 (by omega)
  refine ⟨k + 1, ?_⟩
  rw [saronlaw01_tuned.l1, if_pos (by omega), wsucc _ (by omega), if_pos (by omega), if_pos (by omega), rd_at _ _ h3, if_pos c1, if_pos c2, if_pos (by omega), if_pos (by omega), rd_at _ _ h2, if_pos a1, if_pos a2, rd26_at _ _ h1, a3, c3,
   w64 (x := 1000 * _) (by omega) (by omega), w64 (by omega) (by omega), w64 (by omega) (by omega), sits_f, List.range'_succ, List.all_cons, fit_step, e1, e2, e3]
  simp only [Option.bind_some]
  cases hb : (decide ((s[i]).f1[j].f0 * l.getD ((s[i]).f0[j]).toNat 0 ≤ 1000 * l.getD ((s[i]).f0[j + 1]).toNat 0) && decide (1000 * l.getD ((s[i]).f0[j + 1]).toNat 0 ≤ (s[i]).f1[j].f1 * l.getD ((s[i]).f0[j]).toNat 0)) with
  | true => rw [if_pos rfl, hk]; simp
  | false => simp
theorem tuned_l0 (N : Neat h s p b0 b1) (hl : Heard h.length l) : ∀ (d i : Nat), i + d = s.length →
  ∃ k, saronlaw01_tuned.l0 k l (i : Int) h s p b0 b1 = some (((s.drop i).all fun x => (List.range' 0 x.f1.length).all fun m => fitQ b0 b1 l (stepQ x m)) && (p.all fun q => fitQ b0 b1 l (pairQ b0 b1 q))) := by
 have hs := N.scales
 intro d
 induction d with
 | zero =>
  intro i hi
  obtain ⟨k, hk⟩ := tuned_l2 N hl p.length 0 (by omega)
  exact ⟨k + 1, by rw [saronlaw01_tuned.l0, if_neg (by omega), List.drop_of_length_le (by omega)]; exact hk⟩
 | succ d ih =>
  intro i hi
  have hlt : i < s.length := by omega
  obtain ⟨k, hk⟩ := tuned_l1 N hl hlt (ih (i + 1) (by omega)) (s[i]).f1.length 0 (by omega)
  refine ⟨k + 1, ?_⟩
  rw [saronlaw01_tuned.l0, if_pos (by omega), if_pos (by omega), rd61_at _ _ hlt, List.drop_eq_getElem_cons hlt, List.all_cons, Bool.and_assoc]
  exact hk
theorem tuned_law (N : Neat h s p b0 b1) (hl : Heard h.length l) : ∃ K, ∀ k, K ≤ k → saronlaw01_tuned.f k h s p b0 b1 l = some ((jsOf h s p b0 b1).all (fitJ (b0, b1) l)) := by
 have hm : ∀ k, LeO (saronlaw01_tuned.f k h s p b0 b1 l) (saronlaw01_tuned.f (k + 1) h s p b0 b1 l) := saronlaw01_tuned.mono h s p b0 b1 l
 obtain ⟨K, hK⟩ := tuned_l0 N hl s.length 0 (by omega)
 refine ⟨K, fun k hk => le_mono (F := fun k => saronlaw01_tuned.f k h s p b0 b1 l) hm ?_ hk⟩
 show saronlaw01_tuned.l0 K l 0 h s p b0 b1 = _
 rw [show (0 : Int) = ((0 : Nat) : Int) from rfl, hK]
 unfold jsOf
 rw [List.all_map]
 exact congrArg some (joints_all N (fun q => fitJ (b0, b1) l (toJ q))).symm
end
end Go.Proofs.YtgehkojccmkggaaDoor.K
end
section
namespace Go.Proofs.YtgehkojccmkggaaDoor.K
open Go.RowKit Go.Shelf Go.Proofs.YtgehkojccmkggaaDoorW.PrintWords Go.Proofs.YtgehkojccmkggaaDoorW.PrintLast Go.Proofs.YtgehkojccmkggaaDoorW.PrintMore Go.Proofs.YtgehkojccmkggaaDoor.H Tune
set_option linter.unusedVariables false
set_option linter.unusedSimpArgs false
theorem nth_some (l : List Int) (a : Int) (hl : l.length ≤ 9000000) : ∃ v, saronref00_Nth.f l a = some v := by
 unfold saronref00_Nth.f
 by_cases h : (l.length : Int) = 0
 ·rw [if_pos h]; exact ⟨_, rfl⟩
 ·rw [if_neg h]
  obtain ⟨t, ht, e⟩ := turn_at a l.length (by omega) hl
  rw [e]
  simp only [Option.bind_some]
  rw [if_pos (by omega), if_pos (by omega)]
  exact ⟨_, rfl⟩
end Go.Proofs.YtgehkojccmkggaaDoor.K
end
section
namespace Go.Proofs.YtgehkojccmkggaaDoor.K
open Go.RowKit Go.Shelf Go.Proofs.YtgehkojccmkggaaDoorW.PrintWords Go.Proofs.YtgehkojccmkggaaDoorW.PrintLast Go.Proofs.YtgehkojccmkggaaDoorW.PrintMore Go.Proofs.YtgehkojccmkggaaDoor.H Tune
set_option linter.unusedVariables false
set_option linter.unusedSimpArgs false
attribute [local go_sem] Oper.semAt_some
section
variable {A0 : Option Addr} {c0 : Nat} {h : List S26} {A1 : Option Addr} {c1 : Nat} {s : List S61} {A2 : Option Addr} {c2 : Nat} {p : List S48} {w : World}
theorem span_okZ {a b lo hi : Int} (h1 : lo ≤ a) (h2 : a ≤ b) (h3 : b ≤ hi) : okSpan ⟨a, b⟩ lo hi = true := by unfold okSpan; rw [decide_eq_true h1, decide_eq_true h2, decide_eq_true h3]; rfl
theorem St.tail {w0 w : World} {x : Bk} {L : List Bk} (h : Aside0 (St w0 w (x :: L))) : Aside0 (St w0 w L) := ⟨⟨h.out.below, h.out.blks.2, fun y hy => h.out.own y (List.mem_cons_of_mem _ hy), (List.pairwise_cons.1 h.out.apart).2⟩⟩
theorem At.key (H : At A0 c0 h A1 c1 s A2 c2 p w) {k : Nat} (hk : k < h.length) : ∃ ad, A0 = some ad ∧ w.cell? (ad.add (k * 2)) = some (.int .i64 (loH h k)) ∧ w.cell? ⟨(ad.add (k * 2)).block, (ad.add (k * 2)).off + 1, none⟩ = some (.int .i64 (hiH h k)) := H_at H.d0 k hk
theorem At.heard {ad : Addr} {k : Nat} (H : At (some ad) c0 h A1 c1 s A2 c2 p w) (hk : k < h.length) : w.cell? (ad.add (k * 2)) = some (.int .i64 (loH h k)) ∧ w.cell? ⟨(ad.add (k * 2)).block, (ad.add (k * 2)).off + 1, none⟩ = some (.int .i64 (hiH h k)) := by
 obtain ⟨ad', e, h1, h2⟩ := H_at H.d0 k hk
 injection e with e
 subst e
 exact ⟨h1, h2⟩
theorem At.scale (H : At A0 c0 h A1 c1 s A2 c2 p w) {i : Nat} (hi : i < s.length) : ∃ ad B0 e0 B1 e1, A1 = some ad ∧ w.cell? (ad.add (i * 2)) = some (.slice B0 (s[i]).f0.length e0) ∧ w.cell? ⟨(ad.add (i * 2)).block, (ad.add (i * 2)).off + 1, none⟩ = some (.slice B1 (s[i]).f1.length e1) ∧ (s[i]).f0.length ≤ e0 ∧ Kd.C (Kd.int .i64) w B0 (s[i]).f0.length (s[i]).f0 ∧ (s[i]).f1.length ≤ e1 ∧ Kd.C k26 w B1 (s[i]).f1.length (s[i]).f1 := by
 have h1 := at_T61 H.d1 (i : Int) (by omega) (by omega)
 rw [rd61_at _ _ hi, Int.toNat_natCast] at h1
 exact h1
theorem At.pair (H : At A0 c0 h A1 c1 s A2 c2 p w) {i : Nat} (hi : i < p.length) : ∃ ad, A2 = some ad ∧ w.cell? (ad.add (i * 2)) = some (.int .i64 (p[i]).f0) ∧ w.cell? ⟨(ad.add (i * 2)).block, (ad.add (i * 2)).off + 1, none⟩ = some (.int .i64 (p[i]).f1) := by
 have h1 := at_T48 H.d2 (i : Int) (by omega) (by omega)
 rw [rd48_at _ _ hi, Int.toNat_natCast] at h1
 exact h1
theorem int_at {A : Option Addr} {l : List Int} (hC : Kd.C (Kd.int .i64) w A l.length l) {j : Nat} (hj : j < l.length) : ∃ ad, A = some ad ∧ w.cell? (ad.add j) = some (.int .i64 (l[j])) := by
 obtain ⟨_, _, h3⟩ := hC
 obtain ⟨ad, e, hc⟩ := h3 (by omega)
 obtain ⟨c, hl, hK, hcell⟩ := hc j _ (List.getElem?_eq_getElem hj)
 have hK2 : c = [.int .i64 l[j]] := hK
 subst hK2
 have h4 := hcell 0 _ rfl
 refine ⟨ad, e, ?_⟩
 rw [show j * (Kd.int .i64).sz + 0 = j by show j * 1 + 0 = j; omega] at h4
 exact h4
theorem span_at {A : Option Addr} {l : List S26} (hC : Kd.C k26 w A l.length l) {j : Nat} (hj : j < l.length) : ∃ ad, A = some ad ∧ w.cell? (ad.add (j * 2)) = some (.int .i64 (l[j]).f0) ∧ w.cell? ⟨(ad.add (j * 2)).block, (ad.add (j * 2)).off + 1, none⟩ = some (.int .i64 (l[j]).f1) := by
 have h1 := at_T26 hC (j : Int) (by omega) (by omega)
 rw [rd26_at _ _ hj, Int.toNat_natCast] at h1
 exact h1
theorem cSits {w0 : World} (n a b : Int) {r : Bool} (hr : (decide (a ≤ n) && decide (n ≤ b)) = r) : ∀ W, Below w0.heap.size w0 W → Calls Tryd.prog 59 #[.int .i64 n, .int .i64 a, .int .i64 b] W fun e w' => e = .returned (.bool r) ∧ Below W.heap.size W w' := fun W _ => (saronref00_Sits.calls n a b r W (by rw [sits_f, hr])).mono fun _ _ hh => ⟨hh.1, Drawn0.belowZ hh.2⟩
theorem cCheck (H : Aside0 (At A0 c0 h A1 c1 s A2 c2 p w)) {b0 b1 r : Int} (hr : Aside0 (checkT h s p b0 b1 = r)) : ∀ W, Below w.heap.size w W → Calls Tryd.prog 18 #[.agg (sc A0 c0 h A1 c1 s A2 c2 p b0 b1)] W fun e w' => e = .returned (.int .i64 r) ∧ Below W.heap.size W w' := fun W hW => by
 have X := H.out.below hW
 exact tune_Check.calls A0 c0 h A1 c1 s A2 c2 p b0 b1 r W X.d0 X.n0 X.d1 X.n1 X.d2 X.n2 X.gl (by unfold tune_Check.f; rw [if_pos X.sm, hr.out])
end
end Go.Proofs.YtgehkojccmkggaaDoor.K
end
section
namespace Go.Proofs.YtgehkojccmkggaaDoor.K
open Go.RowKit Go.Shelf Go.Proofs.YtgehkojccmkggaaDoorW.PrintWords Go.Proofs.YtgehkojccmkggaaDoorW.PrintLast Go.Proofs.YtgehkojccmkggaaDoorW.PrintMore Go.Proofs.YtgehkojccmkggaaDoor.H Tune
set_option linter.unusedVariables false
set_option linter.unusedSimpArgs false
attribute [local go_sem] Oper.semAt_some
attribute [local go_sem high] eqA26
attribute [local go_sem] max2_int min2_int max_two min_two
def r36.T6 : Bool × List (List Nat × List Nat) := (true, [([], []), ([0], [0]), ([], []), ([1, 2], [1, 2]), ([3], [3]), ([4], [4]), ([5, 5], [5]), ([6], [6]), ([7, 6], [6, 7]), ([6], [6]), ([8, 9, 6], [6, 8, 9]), ([10, 6], [6, 10]), ([11, 6], [6, 11]), ([6], [6]), ([13, 6], [6, 13]), ([6], [6]), ([14, 15, 6], [6, 14, 15]), ([16, 6], [6, 16]), ([17, 6], [6, 17]), ([12, 18, 6], [6, 12, 18]), ([19, 6], [6, 19]), ([6, 20], [6, 20]), ([21, 6, 0, 1, 2, 3, 4, 5, 6, 7, 8, 9, 10, 11, 12, 13, 14, 15, 16, 17, 18, 19, 20, 21], [21])])
def r36.B6 : List Nat := [0, 1, 0, 7, 15, 31, 63, 127, 255, 127, 1023, 2047, 4095, 127, 8319, 127, 57471, 123007, 254079, 524287, 1048575, 2097151, 4194303]
theorem r36.tab6 : rtab .any (opsOf Tryd.f36 6) = r36.T6 := by kernel_rfl
theorem r36.bits6 : waitsOk r36.T6.2 r36.B6 = true := by kernel_rfl
section
variable {A0 : Option Addr} {c0 : Nat} {h : List S26} {A1 : Option Addr} {c1 : Nat} {s : List S61} {A2 : Option Addr} {c2 : Nat} {p : List S48} {w : World} {b0 b1 : Int} (H : Aside0 (At A0 c0 h A1 c1 s A2 c2 p w))
include H
set_option maxRecDepth 100000 in
set_option maxHeartbeats 4000000 in
theorem sound_no (HK : Aside0 (checkT h s p b0 b1 = 10)) :
  Calls Tryd.prog 36 #[.agg #[.slice A0 h.length c0, .slice A1 s.length c1, .slice A2 p.length c2, .int .i64 b0, .int .i64 b1]] w fun e w' => e = .returned (.bool false) ∧ Below w.heap.size w w' := by
 have ST := St.start w
 have HC : True := trivial
 go_enter Tryd.func36, Tryd.ntmps36
 go_wp2_with (first | ((with_reducible refine gate_dst (N := 1) rfl ?_); refine evA ST (N := 1) (cs := #[.slice A0 h.length c0, .slice A1 s.length c1, .slice A2 p.length c2, .int .i64 b0, .int .i64 b1]) (t := 28) ?_; clear ST HC; intro g1 v ST HC; simp only [Rd] at HC) | ((with_reducible refine gate_dst (N := 14) rfl ?_); refine evC ST (N := some 14) (cCheck H HK) ?_ Tryd.func18; clear ST HC; intro v ST HC; simp only [Rd] at HC))
 go_loopw [4] (fun u4 wr => u4 = .bool false ∧ Aside0 (St w wr [⟨g1, #[.slice A0 h.length c0, .slice A1 s.length c1, .slice A2 p.length c2, .int .i64 b0, .int .i64 b1], 28, true⟩])) (fun _ _ => 0)
 case atStart => exact ⟨rfl, ST⟩
 case round =>
  clear ST HC
  obtain ⟨rfl, ST⟩ := hrel
  have HC := St.rd ST
  simp only [Rd] at HC
  go_wp2
  go_loopw [4] (fun u4 wr => u4 = .bool false ∧ Aside0 (St w wr [⟨g1, #[.slice A0 h.length c0, .slice A1 s.length c1, .slice A2 p.length c2, .int .i64 b0, .int .i64 b1], 28, true⟩])) (fun _ _ => 0)
  case atStart => exact ⟨rfl, ST⟩
  case round =>
   clear ST HC
   obtain ⟨rfl, ST⟩ := hrel
   have HC := St.rd ST
   simp only [Rd] at HC
   go_wp2
   go_loopw [4] (fun u4 wr => u4 = .bool false ∧ Aside0 (St w wr [⟨g1, #[.slice A0 h.length c0, .slice A1 s.length c1, .slice A2 p.length c2, .int .i64 b0, .int .i64 b1], 28, true⟩])) (fun _ _ => 0)
   case atStart => exact ⟨rfl, ST⟩
   case round =>
    clear ST HC
    obtain ⟨rfl, ST⟩ := hrel
    have HC := St.rd ST
    simp only [Rd] at HC
    go_wp2
    go_ret
    exact ⟨rfl, ST.out.below⟩
set_option maxRecDepth 100000 in
set_option maxHeartbeats 4000000 in
theorem sound_yes (N : Neat h s p b0 b1) (HK : Aside0 (checkT h s p b0 b1 = 0)) :
  Calls Tryd.prog 36 #[.agg #[.slice A0 h.length c0, .slice A1 s.length c1, .slice A2 p.length c2, .int .i64 b0, .int .i64 b1]] w fun e w' => e = .returned (.bool true) ∧ Below w.heap.size w w' := by
 have hn := N.few
 have hs2 := N.scales
 have hp4 := N.pairs
 have HN := zh N
 clear N
 have ST := St.start w
 have HC : True := trivial
 have i1 : (1 : Int) ≤ (h.length : Int) := by omega
 have i8 : (h.length : Int) ≤ 8 := by omega
 have i2 : (s.length : Int) ≤ 2 := by omega
 have i4 : (p.length : Int) ≤ 4 := by omega
 go_enter Tryd.func36, Tryd.ntmps36
 go_wp2_with (first | ((with_reducible refine gate_dst (N := 1) rfl ?_); refine evA ST (N := 1) (cs := #[.slice A0 h.length c0, .slice A1 s.length c1, .slice A2 p.length c2, .int .i64 b0, .int .i64 b1]) (t := 28) ?_; clear ST HC; intro g1 v ST HC; simp only [Rd] at HC) | ((with_reducible refine gate_dst (N := 14) rfl ?_); refine evC ST (N := some 14) (cCheck H HK) ?_ Tryd.func18; clear ST HC; intro v ST HC; simp only [Rd] at HC) | ((with_reducible refine gate_dst (N := 18) rfl ?_); refine gate_guard (by rfl) ?_; refine evC ST (N := some 18) (cSits (r := true) (h.length : Int) 1 8 (by rw [decide_eq_true i1, decide_eq_true i8]; rfl)) ?_ Tryd.func59; clear ST HC; intro v ST HC; simp only [Rd] at HC) | ((with_reducible refine gate_dst (N := 35) rfl ?_); refine gate_guard (by rfl) ?_; refine evC ST (N := some 35) (cGood b0 b1 0 60 HN.out.beat) ?_ Tryd.func46; clear ST HC; intro v ST HC; simp only [Rd] at HC))
 go_loopw [4, 5] (fun u4 u wr => ∃ k : Nat, k ≤ h.length ∧ u4 = .bool true ∧ u = .int .i64 k ∧ Aside0 (St w wr [⟨g1, #[.slice A0 h.length c0, .slice A1 s.length c1, .slice A2 p.length c2, .int .i64 b0, .int .i64 b1], 28, true⟩])) (fun _ u _ => h.length - (intOf u).toNat)
 case atStart => exact ⟨0, Nat.zero_le _, rfl, rfl, ST⟩
 case round =>
  clear ST HC
  obtain ⟨k, hkk, rfl, rfl, ST⟩ := hrel
  have HC := St.rd ST
  simp only [Rd] at HC
  by_cases hlt : k < h.length
  ·have l1 : (k : Int) < (h.length : Int) := by omega
   have l0 : 0 ≤ (k : Int) := by omega
   obtain ⟨ad, rfl, _⟩ := H.out.key hlt
   have hok := HN.out.heard _ (List.getElem_mem hlt)
   have elo : loH h k = h[k].f0 := by unfold loH; simp [List.getD_eq_getElem?_getD, hlt]
   have ehi : hiH h k = h[k].f1 := by unfold hiH; simp [List.getD_eq_getElem?_getD, hlt]
   unfold okHeard okSpan at hok
   simp only [Bool.and_eq_true, decide_eq_true_eq] at hok
   rw [← elo, ← ehi] at hok
   clear elo ehi
   have HG := zh (span_okZ hok.1.1 hok.1.2.1 hok.1.2.2 : okSpan ⟨loH h k, hiH h k⟩ 1 4000 = true)
   have hd : decide (wrap64 (hiH h k - loH h k) ≤ 40) = true := by rw [w64 (by omega) (by omega)]; exact decide_eq_true hok.2
   clear hok
   go_upto_region 6 with (fail)
   refine zI (E := fun w_ => w_.cell? (ad.add (k * 2)) = some (.int .i64 (loH h k)) ∧ w_.cell? ⟨(ad.add (k * 2)).block, (ad.add (k * 2)).off + 1, none⟩ = some (.int .i64 (hiH h k))) (n := 23) (ds := []) ST (fun W hW => by obtain ⟨ad', e, h9⟩ := (H.out.below hW).key hlt; injection e with e; subst e; exact h9) r36.tab6 r36.bits6 ?_
   clear ST HC
   intro v ST HC HT_ HW_ HE_
   simp only [Rd] at HC
   refine zu 0 ?_
   refine zu 2 ?_
   refine zL 1 ST ?_
   refine zu 3 ?_
   refine zL 4 ST ?_
   refine zG 5 ST (cGood (loH h k) (hiH h k) 1 4000 HG.out) ?_ Tryd.func46
   clear ST HC
   intro v ST HC
   simp only [Rd] at HC
   refine zu 6 ?_
   refine zu 7 ?_
   refine zu 9 ?_
   refine zu 13 ?_
   refine zu 15 ?_
   refine zL 8 ST ?_
   refine zu 10 ?_
   refine zu 11 ?_
   refine zL 12 ST ?_
   refine zL 14 ST ?_
   refine zu 16 ?_
   refine zu 17 ?_
   refine zL 18 ST ?_
   refine zu 19 ?_
   refine zu 20 ?_
   refine zu 21 ?_
   refine zu 22 ?_
   refine zd ?_
   clear HT_ HW_ HE_
   go_wp2_with (fail)
   go_roundw
   case rel => exact ⟨k + 1, by omega, rfl, by go_num, ST⟩
   case measure => simp [intOf]; omega
  ·obtain rfl : k = h.length := by omega
   go_wp2_with (fail)
   go_loopw [4, 6] (fun u4 u wr => ∃ k : Nat, k ≤ s.length ∧ u4 = .bool true ∧ u = .int .i64 k ∧ Aside0 (St w wr [⟨g1, #[.slice A0 h.length c0, .slice A1 s.length c1, .slice A2 p.length c2, .int .i64 b0, .int .i64 b1], 28, true⟩])) (fun _ u _ => s.length - (intOf u).toNat)
   case atStart => exact ⟨0, Nat.zero_le _, rfl, rfl, ST⟩
   case round =>
    clear ST HC
    obtain ⟨i, hki, rfl, rfl, ST⟩ := hrel
    have HC := St.rd ST
    simp only [Rd] at HC
    by_cases hlt2 : i < s.length
    ·have l1 : (i : Int) < (s.length : Int) := by omega
     have l0 : 0 ≤ (i : Int) := by omega
     obtain ⟨ad, B0, e0, B1, e1, rfl, y0, y1, n0, K0, n1, K1⟩ := H.out.scale hlt2
     obtain ⟨x, hx⟩ : ∃ x, x = s[i] := ⟨_, rfl⟩
     obtain ⟨z1, z2, z3, z4, z5⟩ := HN.out.scale _ (List.getElem_mem hlt2)
     rw [← hx] at y0 y1 n0 n1 K0 K1 z1 z2 z3 z4 z5
     clear hx
     replace y0 := ST.out.below.cell (World.block_lt_of_cell? w _ y0) |>.trans y0
     replace y1 := ST.out.below.cell (World.block_lt_of_cell? w _ y1) |>.trans y1
     have Z4 := zh z4
     have Z5 := zh z5
     have HK0 := zh K0
     have HK1 := zh K1
     clear z4 z5 K0 K1
     have q1 : ((x.f0.length : Int) ≤ (h.length : Int)) := by omega
     have q2 : (((x.f1.length : Int) + 1) == (x.f0.length : Int)) = true := beq_iff_eq.2 (by omega)
     have q3 : (x.f1.length : Int) ≤ 8 := by omega
     have Z3 := zh z3
     clear z3
     go_wp2_with (first | ((with_reducible refine gate_dst (N := 7) rfl ?_); refine evA ST (N := 7) (cs := #[.slice none 0 0, .slice none 0 0]) (t := 61) ?_; clear ST HC; intro g7 v ST HC; simp only [Rd] at HC) | ((with_reducible refine gate_store (p := 7) (v := (.tmp 81)) rfl ?_); refine evS (L' := [⟨g7, #[.slice B0 x.f0.length e0, .slice B1 x.f1.length e1], 61, true⟩, ⟨g1, #[.slice A0 h.length c0, .slice (some ad) s.length c1, .slice A2 p.length c2, .int .i64 b0, .int .i64 b1], 28, true⟩]) ST (fun S => St.put (St.put S 0 (0) (.slice B0 x.f0.length e0) rfl) 0 (1) (.slice B1 x.f1.length e1) rfl) ?_; clear ST HC; intro v ST HC; simp only [Rd] at HC))
     clear y0 y1
     go_loopw [4, 8] (fun u4 u wr => ∃ k : Nat, k ≤ x.f0.length ∧ u4 = .bool true ∧ u = .int .i64 k ∧ Aside0 (St w wr [⟨g7, #[.slice B0 x.f0.length e0, .slice B1 x.f1.length e1], 61, true⟩, ⟨g1, #[.slice A0 h.length c0, .slice (some ad) s.length c1, .slice A2 p.length c2, .int .i64 b0, .int .i64 b1], 28, true⟩])) (fun _ u _ => x.f0.length - (intOf u).toNat)
     case atStart => exact ⟨0, Nat.zero_le _, rfl, rfl, ST⟩
     case round =>
      clear ST HC
      obtain ⟨j, hkj, rfl, rfl, ST⟩ := hrel
      have HC := St.rd ST
      simp only [Rd] at HC
      by_cases hlt3 : j < x.f0.length
      ·have m1 : (j : Int) < (x.f0.length : Int) := by omega
       have m0 : 0 ≤ (j : Int) := by omega
       obtain ⟨ak, rfl, xk⟩ := int_at (Kd.C_below HK0.out ST.out.below) hlt3
       have hin := Z4.out _ (List.getElem_mem hlt3)
       unfold inK at hin
       have HIN := zh hin
       clear hin
       obtain ⟨key, hkey⟩ : ∃ key, key = x.f0[j] := ⟨_, rfl⟩
       rw [← hkey] at xk HIN
       clear hkey
       by_cases hj0 : j = 0
       ·have v0 : ((j : Int) == 0) = true := beq_iff_eq.2 (by omega)
        clear hj0
        go_wp2_with (first | ((with_reducible refine gate_dst (N := 114) rfl ?_); refine evC ST (N := some 114) (cSits key 0 ((h.length : Int) - 1) HIN.out) ?_ Tryd.func59; clear ST HC; intro v ST HC; simp only [Rd] at HC))
        go_roundw
        case rel => exact ⟨j + 1, by omega, rfl, by go_num, ST⟩
        case measure => simp [intOf]; omega
       ·have hlt4 : j - 1 < x.f1.length := by have := Z3.out; omega
        obtain ⟨ad2, rfl, _⟩ := span_at HK1.out hlt4
        have hsp := Z5.out _ (List.getElem_mem hlt4)
        unfold okSpan at hsp
        simp only [Bool.and_eq_true, decide_eq_true_eq] at hsp
        obtain ⟨st, hst⟩ : ∃ st, st = x.f1[j - 1] := ⟨_, rfl⟩
        rw [← hst] at hsp
        have HP : Aside0 (∀ W, Below w.heap.size w W → W.cell? (ad2.add ((j - 1) * 2)) = some (.int .i64 st.f0) ∧ W.cell? ⟨(ad2.add ((j - 1) * 2)).block, (ad2.add ((j - 1) * 2)).off + 1, none⟩ = some (.int .i64 st.f1)) := ⟨fun W hW => by obtain ⟨ad', e, h9⟩ := span_at (Kd.C_below HK1.out hW) hlt4; injection e with e; subst e; rw [hst]; exact h9⟩
        clear hst
        have HG := zh (span_okZ (by omega) hsp.2.1 hsp.2.2 : okSpan ⟨st.f0, st.f1⟩ 1 5000 = true)
        clear hsp
        have v0 : ((j : Int) == 0) = false := beq_eq_false_iff_ne.2 (by omega)
        have v1 : (j : Int) - 1 < (x.f1.length : Int) := by omega
        have v2 : 0 ≤ (j : Int) - 1 := by omega
        have v3 : ((j : Int) - 1).toNat = j - 1 := by omega
        have v4 : (j : Int) ≤ 8 := by omega
        go_wp2_with (first | ((with_reducible refine gate_dst (N := 114) rfl ?_); refine evC ST (N := some 114) (cSits key 0 ((h.length : Int) - 1) HIN.out) ?_ Tryd.func59; clear ST HC xk; intro v ST HC; simp only [Rd] at HC; obtain ⟨u0, u1⟩ := HP.out _ ST.out.below) | ((with_reducible refine gate_dst (N := 125) rfl ?_); refine gate_guard (by rfl) ?_; refine evC ST (N := some 125) (cGood st.f0 st.f1 1 5000 HG.out) ?_ Tryd.func46; clear ST HC; intro v ST HC; simp only [Rd] at HC))
        clear v3
        go_roundw
        case rel => exact ⟨j + 1, by omega, rfl, by go_num, ST⟩
        case measure => simp [intOf]; omega
      ·obtain rfl : j = x.f0.length := by omega
       go_wp2_with (fail)
       go_roundw
       case rel => exact ⟨i + 1, by omega, rfl, by go_num, St.tail ST⟩
       case measure => simp [intOf]; omega
    ·obtain rfl : i = s.length := by omega
     go_wp2_with (fail)
     go_loopw [4, 9] (fun u4 u wr => ∃ k : Nat, k ≤ p.length ∧ u4 = .bool true ∧ u = .int .i64 k ∧ Aside0 (St w wr [⟨g1, #[.slice A0 h.length c0, .slice A1 s.length c1, .slice A2 p.length c2, .int .i64 b0, .int .i64 b1], 28, true⟩])) (fun _ u _ => p.length - (intOf u).toNat)
     case atStart => exact ⟨0, Nat.zero_le _, rfl, rfl, ST⟩
     case round =>
      clear ST HC
      obtain ⟨j, hkj, rfl, rfl, ST⟩ := hrel
      have HC := St.rd ST
      simp only [Rd] at HC
      by_cases hlt5 : j < p.length
      ·have m1 : (j : Int) < (p.length : Int) := by omega
       have m0 : 0 ≤ (j : Int) := by omega
       obtain ⟨ak, rfl, _⟩ := H.out.pair hlt5
       have hq := HN.out.pair _ (List.getElem_mem hlt5)
       unfold inK at hq
       obtain ⟨q, hqq⟩ : ∃ q, q = p[j] := ⟨_, rfl⟩
       have HP : Aside0 (∀ W, Below w.heap.size w W → W.cell? (ak.add (j * 2)) = some (.int .i64 q.f0) ∧ W.cell? ⟨(ak.add (j * 2)).block, (ak.add (j * 2)).off + 1, none⟩ = some (.int .i64 q.f1)) := ⟨fun W hW => by obtain ⟨ad', e, h9⟩ := (H.out.below hW).pair hlt5; injection e with e; subst e; rw [hqq]; exact h9⟩
       rw [← hqq] at hq
       have HQ := zh hq
       clear hq hqq
       obtain ⟨u0, u1⟩ := HP.out _ ST.out.below
       go_wp2_with (first | ((with_reducible refine gate_dst (N := 146) rfl ?_); refine evC ST (N := some 146) (cSits q.f0 0 ((h.length : Int) - 1) HQ.out.1) ?_ Tryd.func59; clear ST HC u0 u1; intro v ST HC; simp only [Rd] at HC; obtain ⟨u0, u1⟩ := HP.out _ ST.out.below) | ((with_reducible refine gate_dst (N := 156) rfl ?_); refine gate_guard (by rfl) ?_; refine evC ST (N := some 156) (cSits q.f1 0 ((h.length : Int) - 1) HQ.out.2) ?_ Tryd.func59; clear ST HC; intro v ST HC; simp only [Rd] at HC))
       go_roundw
       case rel => exact ⟨j + 1, by omega, rfl, by go_num, ST⟩
       case measure => simp [intOf]; omega
      ·obtain rfl : j = p.length := by omega
       go_wp2_with (fail)
       go_ret
       exact ⟨rfl, ST.out.below⟩
end
end Go.Proofs.YtgehkojccmkggaaDoor.K
end
section
namespace Go.Proofs.YtgehkojccmkggaaDoor.K
open Go.RowKit Go.Proofs.YtgehkojccmkggaaDoorW.PrintWords Go.Proofs.YtgehkojccmkggaaDoorW.PrintLast Go.Proofs.YtgehkojccmkggaaDoorW.PrintMore
structure Rw where
 e : TypeId
 sz : Nat
 v : Value
 n : Nat
 inner : List Value
structure Sx (w0 w : World) (L : List Bk) (R : List Rw) (I : World → Prop) : Prop where
 below : Below w0.heap.size w0 w
 blks : Blks w L
 own : ∀ x ∈ L, x.own = true → w0.heap.size ≤ x.g
 apart : L.Pairwise fun x y => x.g ≠ y.g
 rows : ∀ r ∈ R, w.ownsRow w0.heap.size r.e r.sz r.v r.n r.inner
 far : ∀ r ∈ R, ∀ k, r.v.ownBlock = some k → ∀ x ∈ L, x.g ≠ k
 alone : R.Pairwise fun r q => ∀ k, r.v.ownBlock = some k → q.v.ownBlock ≠ some k
 ex : ∃ ok : Nat → Prop, Foot I w ok ∧ (∀ k, ok k → k < w.heap.size) ∧ (∀ k, ok k → ∀ x ∈ L, x.own = true → x.g ≠ k) ∧ ∀ k, ok k → ∀ r ∈ R, r.v.ownBlock ≠ some k
section
variable {w0 w w1 : World} {L : List Bk} {R : List Rw} {I J : World → Prop}
theorem Sx.rd (h : Aside0 (Sx w0 w L R I)) : Rd w L := h.out.blks.rd
theorem Sx.start (w0 : World) : Aside0 (Sx w0 w0 [] [] (fun _ => True)) := ⟨⟨Below.refl _ _, trivial, (fun x hx => by cases hx), List.Pairwise.nil, (fun x hx => by cases hx), (fun x hx => by cases hx), List.Pairwise.nil, fun _ => False, fun _ _ => trivial, (fun _ h => h.elim), (fun _ h => h.elim), (fun _ h => h.elim)⟩⟩
theorem Sx.call (h : Aside0 (Sx w0 w L R I)) (hb : Below w.heap.size w w1) : Aside0 (Sx w0 w1 L R I) := by
 obtain ⟨⟨a1, a2, a3, a4, a5, a6, a7, ok, b1, b2, b3, b4⟩⟩ := h
 refine ⟨⟨below_step a1 hb, a2.map fun _ _ hx => blk_below hx hb, a3, a4, fun r hr => own_move (a5 r hr) (fun k hk => hb.block k ((a5 r hr).lt k hk).2), a6, a7, ok, b1.step (fun k _ hlt => hb.block k hlt), fun k hk => ?_, b3, b4⟩⟩
 have := b2 k hk
 have := hb.size
 omega
theorem Sx.alloc (h : Aside0 (Sx w0 w L R I)) (cs : Array Value) (t : TypeId) : Aside0 (Sx w0 (w.alloc (.cells cs t (0, 0))) (⟨w.heap.size, cs, t, true⟩ :: L) R I) := by
 have h2 := Sx.call h (below_alloc (Below.refl w.heap.size w) (.cells cs t (0, 0)))
 obtain ⟨⟨a1, a2, a3, a4, a5, a6, a7, ok, b1, b2, b3, b4⟩⟩ := h
 obtain ⟨⟨c1, c2, _, _, c5, _, _, _⟩⟩ := h2
 have hs : w.heap.size < (w.alloc (.cells cs t (0, 0))).heap.size := blk_lt (blk_new w _)
 refine ⟨⟨c1, ⟨blk_new w _, c2⟩, ?_, List.Pairwise.cons (fun x hx => ?_) a4, c5, ?_, a7, ok, b1.step (fun k _ hlt => Below.heap_alloc w _ k hlt), (fun k hk => by have := b2 k hk; omega), ?_, b4⟩⟩
 ·intro x hx e
  rcases List.mem_cons.1 hx with rfl | hx
  ·exact a1.size
  ·exact a3 x hx e
 ·have := blk_lt (a2.of_mem hx)
  show w.heap.size ≠ x.g
  omega
 ·intro r hr k hk x hx
  rcases List.mem_cons.1 hx with rfl | hx
  ·have := ((a5 r hr).lt k hk).2
   show w.heap.size ≠ k
   omega
  ·exact a6 r hr k hk x hx
 ·intro k hk x hx e
  rcases List.mem_cons.1 hx with rfl | hx
  ·have := b2 k hk
   show w.heap.size ≠ k
   omega
  ·exact b3 k hk x hx e
theorem Sx.less (h : Aside0 (Sx w0 w L R I)) {L' : List Bk} (hs : L'.Sublist L) : Aside0 (Sx w0 w L' R I) := by
 obtain ⟨⟨a1, a2, a3, a4, a5, a6, a7, ok, b1, b2, b3, b4⟩⟩ := h
 refine ⟨⟨a1, ?_, fun x hx => a3 x (hs.subset hx), a4.sublist hs, a5, fun r hr k hk x hx => a6 r hr k hk x (hs.subset hx), a7, ok, b1, b2, fun k hk x hx => b3 k hk x (hs.subset hx), b4⟩⟩
 clear a1 a3 a4 a5 a6 a7 b1 b2 b3 b4
 induction hs with
 | slnil => trivial
 | cons _ _ ih => exact ih a2.2
 | cons_cons _ _ ih => exact ⟨a2.1, ih a2.2⟩
theorem Sx.tail (h : Aside0 (Sx w0 w L R I)) {x : Bk} {L' : List Bk} (e : L = x :: L' := by rfl) : Aside0 (Sx w0 w L' R I) := Sx.less h (by rw [e]; exact List.sublist_cons_self _ _)
theorem Sx.row (h : Aside0 (Sx w0 w L R I)) (e sz : Nat) : Aside0 (Sx w0 w L (⟨e, sz, .slice none 0 0, 0, []⟩ :: R) I) := by
 obtain ⟨⟨a1, a2, a3, a4, a5, a6, a7, ok, b1, b2, b3, b4⟩⟩ := h
 refine ⟨⟨a1, a2, a3, a4, ?_, ?_, List.Pairwise.cons (fun q _ k hk => by simp [Value.ownBlock] at hk) a7, ok, b1, b2, b3, ?_⟩⟩
 ·intro r hr
  rcases List.mem_cons.1 hr with rfl | hr
  ·exact World.ownsRow_nil w _ _ _
  ·exact a5 r hr
 ·intro r hr k hk
  rcases List.mem_cons.1 hr with rfl | hr
  ·simp [Value.ownBlock] at hk
  ·exact a6 r hr k hk
 ·intro k hk r hr
  rcases List.mem_cons.1 hr with rfl | hr
  ·simp [Value.ownBlock]
  ·exact b4 k hk r hr
theorem Sx.keep {r : Rw} (h : Aside0 (Sx w0 w L (r :: R) I)) : Aside0 (Sx w0 w L R (fun W => I W ∧ W.ownsRow w0.heap.size r.e r.sz r.v r.n r.inner)) := by
 obtain ⟨⟨a1, a2, a3, a4, a5, a6, a7, ok, b1, b2, b3, b4⟩⟩ := h
 rw [List.pairwise_cons] at a7
 have h5 := a5 r (List.mem_cons_self ..)
 refine ⟨⟨a1, a2, a3, a4, fun q hq => a5 q (List.mem_cons_of_mem _ hq), fun q hq => a6 q (List.mem_cons_of_mem _ hq), a7.2, fun k => ok k ∨ r.v.ownBlock = some k, fun W hW => ⟨b1 W (fun k hk hlt => hW k (.inl hk) hlt), own_move h5 (fun k hk => hW k (.inr hk) (h5.lt k hk).2)⟩, ?_, ?_, ?_⟩⟩
 ·rintro k (hk | hk)
  ·exact b2 k hk
  ·exact (h5.lt k hk).2
 ·rintro k (hk | hk) x hx e
  ·exact b3 k hk x hx e
  ·exact a6 r (List.mem_cons_self ..) k hk x hx
 ·rintro k (hk | hk) q hq
  ·exact b4 k hk q (List.mem_cons_of_mem _ hq)
  ·exact a7.1 q hq k hk
theorem Sx.grew {r : Rw} {g cap m : Nat} {news : List Value} (S : Aside0 (Sx w0 w L (r :: R) I)) (hown : w1.ownsRow w0.heap.size r.e r.sz (.slice (some ⟨g, 0, none⟩) (r.n + m) cap) (r.n + m) (r.inner ++ news)) (hg : w.grownBy w1 r.v.ownBlock) (hat : r.v.ownBlock = some g ∨ g = w.heap.size) :
  Aside0 (Sx w0 w1 L (⟨r.e, r.sz, .slice (some ⟨g, 0, none⟩) (r.n + m) cap, r.n + m, r.inner ++ news⟩ :: R) I) := by
 have S0 := S.out
 have h5 := S0.rows r (List.mem_cons_self ..)
 obtain ⟨a1, a2, a3, a4, a5, a6, a7, ok, b1, b2, b3, b4⟩ := S0
 rw [List.pairwise_cons] at a7
 have hbase := hown.lt g rfl
 have hnew : ∀ k, k < w.heap.size → r.v.ownBlock ≠ some k → k ≠ g := fun k hk hne e => by
  rcases hat with e1 | e1
  ·exact hne (by rw [e1, e])
  ·omega
 refine ⟨⟨Below.grown a1 hg a1.size (fun k hk => (h5.lt k hk).1), a2.map fun y hy hx => blk_grown hx hg (fun e => a6 r (List.mem_cons_self ..) _ e.symm y hy rfl), a3, a4, ?_, ?_, List.Pairwise.cons ?_ a7.2, ok, ?_, ?_, b3, ?_⟩⟩
 ·intro q hq
  rcases List.mem_cons.1 hq with rfl | hq
  ·exact hown
  ·refine own_move (a5 q (List.mem_cons_of_mem _ hq)) (fun k hk => hg.block k ((a5 q (List.mem_cons_of_mem _ hq)).lt k hk).2 (fun e => a7.1 q hq k e.symm hk))
 ·intro q hq k hk x hx
  rcases List.mem_cons.1 hq with rfl | hq
  ·have : g = k := by simpa [Value.ownBlock] using hk
   subst this
   exact hnew _ (blk_lt (a2.of_mem hx)) (fun e => a6 r (List.mem_cons_self ..) _ e x hx rfl)
  ·exact a6 q (List.mem_cons_of_mem _ hq) k hk x hx
 ·intro q hq k hk e
  have : g = k := by simpa [Value.ownBlock] using hk
  subst this
  exact hnew _ ((a5 q (List.mem_cons_of_mem _ hq)).lt _ e).2 (fun e2 => a7.1 q hq _ e2 e) rfl
 ·exact b1.step (fun k hk hlt => hg.block k hlt (fun e => b4 k hk r (List.mem_cons_self ..) e.symm))
 ·intro k hk
  have := b2 k hk
  have := hg.size
  omega
 ·intro k hk q hq
  rcases List.mem_cons.1 hq with rfl | hq
  ·intro e
   have : g = k := by simpa [Value.ownBlock] using e
   subst this
   exact hnew _ (b2 _ hk) (b4 _ hk r (List.mem_cons_self ..)) rfl
  ·exact b4 k hk q (List.mem_cons_of_mem _ hq)
theorem Sx.imp (h : Aside0 (Sx w0 w L R I)) (hi : ∀ W, I W → J W) : Aside0 (Sx w0 w L R J) := by
 obtain ⟨⟨a1, a2, a3, a4, a5, a6, a7, ok, b1, b2, b3, b4⟩⟩ := h
 exact ⟨⟨a1, a2, a3, a4, a5, a6, a7, ok, b1.imp hi, b2, b3, b4⟩⟩
end
section
variable {P : Program} {ops : Array Oper} {rest : List Oper} {o : Oper} {a : Act} {Q : Exit → Act → World → Prop} {w0 w : World} {L : List Bk} {R : List Rw} {I : World → Prop}
theorem yA (S : Aside0 (Sx w0 w L R I)) {N : Tmp} {cs : Array Value} {t : TypeId} (h : ∀ g w1, Aside0 (Sx w0 w1 (⟨g, cs, t, true⟩ :: L) R I) → Rd w1 (⟨g, cs, t, true⟩ :: L) → wpList P ops Q rest (a.put o.dst (.pointer (some ⟨g, 0, none⟩))) w1)
  (hgd : o.guard = none := by rfl) (_hd : o.dst = some N := by rfl) (hrun : (execOp a.eval o).run P w = .ok (.value (.pointer (some ⟨w.heap.size, 0, none⟩))) (w.alloc (.cells cs t (0, 0))) := by first | (go_simp; done) | (go_simp; rfl)) : wpList P ops Q (o :: rest) a w :=
 Kd.event_run hgd hrun (h _ _ (Sx.alloc S cs t) (Sx.rd (Sx.alloc S cs t)))
theorem yC (S : Aside0 (Sx w0 w L R I)) {N : Option Tmp} {f : FuncId} {args : Array Value} {v : Value} (hC : Calls P f args w fun e w' => e = .returned v ∧ Below w.heap.size w w') (h : ∀ w1, Aside0 (Sx w0 w1 L R I) → Rd w1 L → wpList P ops Q rest (a.put N v) w1)
  {fn : Func} {ao : Array Operand} {ts : Array TypeId} (hf : P.funcs[f]? = some fn) (hd : o.dst = N := by rfl) (hg : o.guard = none := by rfl) (hname : (fn.name == "runtime.NumGoroutine") = false := by exact zk) (hb : fn.body.isSome = true := by rfl)
  (hop : o.op = .call { callee := .value (.func f), args := ao, argTypes := ts } := by rfl) (hargs : ao.map a.eval = args := by exact zm) : wpList P ops Q (o :: rest) a w := by
 refine goesL_ N hd hg hf hname hb args hop hargs (hC.mono ?_)
 rintro e w1 ⟨rfl, hb⟩
 exact ⟨_, rfl, h w1 (Sx.call S hb) (Sx.rd (Sx.call S hb))⟩
theorem yX (S : Aside0 (Sx w0 w L R I)) {N : Option Tmp} {f : FuncId} {args : Array Value} {β : Type} {F : β → Value} {R' : β → World → Prop} (hC : Calls P f args w fun e w' => ∃ v, e = .returned (F v) ∧ R' v w' ∧ Below w.heap.size w w') (h : ∀ v w1, R' v w1 → Aside0 (Sx w0 w1 L R I) → Rd w1 L → wpList P ops Q rest (a.put N (F v)) w1)
  {fn : Func} {ao : Array Operand} {ts : Array TypeId} (hf : P.funcs[f]? = some fn) (hd : o.dst = N := by rfl) (hg : o.guard = none := by rfl) (hname : (fn.name == "runtime.NumGoroutine") = false := by exact zk) (hb : fn.body.isSome = true := by rfl)
  (hop : o.op = .call { callee := .value (.func f), args := ao, argTypes := ts } := by rfl) (hargs : ao.map a.eval = args := by exact zm) : wpList P ops Q (o :: rest) a w := by
 refine goesL_ N hd hg hf hname hb args hop hargs (hC.mono ?_)
 rintro e w1 ⟨v, rfl, hr, hb⟩
 exact ⟨_, rfl, h v w1 hr (Sx.call S hb) (Sx.rd (Sx.call S hb))⟩
end
section
variable {P : Program} {md : Region.Mode} {ops : Array Oper} {Q : Exit → Act → World → Prop} {ds : List Nat} {w0 w : World} {L : List Bk} {R : List Rw} {I : World → Prop} {n_ : Tmp} {oi : Oper} {fuel : Nat} {l : Array Bool} {a a' : Act}
theorem yQ {S : World → Prop} {r : Rw} (i : Nat) (ST : Aside0 (Sx w0 w L (r :: R) I)) {t : TypeId} {z : Value} {bytes : Nat} {ad : Addr} {m c : Nat} {news : List Value} (hn : ∀ j u, news[j]? = some u → w.cell? (ad.add j) = some u)
  (h : ∀ g cap w1, Aside0 (Sx w0 w1 L (⟨r.e, r.sz, .slice (some ⟨g, 0, none⟩) (r.n + m) cap, r.n + m, r.inner ++ news⟩ :: R) I) → Rd w1 L → wpAnyLast P md ops Q S ds fuel (l.setIfInBounds i true) (a.put (some n_) (.slice (some ⟨g, 0, none⟩) (r.n + m) cap)) w1)
  (ht : P.underlying t = some (.slice r.e)) (hinfo : (P.info? r.e).map (fun i => (i.zero, i.size, i.bytes)) = some (some z, r.sz, bytes)) (hl : news.length = m * r.sz) (h1 : ∀ u ∈ news, u.oneCell' = true) (hm : 0 < m) (hb : (r.n + m) * bytes ≤ 140737488355328) (hb0 : 0 < bytes) (hz : z.cells.size = r.sz := by rfl) (hs0 : 0 < r.sz := by exact Nat.zero_lt_succ _)
  {s x : Operand} {rest : List Oper} (hi : ops.toList.drop i = oi :: rest := by exact rfl) (hN : oi.dst = some n_ := by exact rfl) (ho : oi.op = .call { callee := .builtin .append, args := #[s, x], argTypes := #[t, t] } := by rfl) (hc : readyB md ops l (l.setIfInBounds i true) i = true := by exact one_of HT_.out zk) (hd : i ∈ ds := by decide) (hw : Region.wanted oi (yielded ops a.tmps) = true := by rfl)
  (hs : a.eval s = r.v := by rfl) (hx : a.eval x = .slice (some ad) m c := by rfl) : wpAnyLast P md ops Q S ds (fuel + 1) l a w := by
 obtain ⟨i0, hi0, hzz⟩ := Option.map_eq_some_iff.1 hinfo
 simp only [Prod.mk.injEq] at hzz
 obtain ⟨hz0, hz1, hz2⟩ := hzz
 have S0 := ST.out
 have h5 := S0.rows r (List.mem_cons_self ..)
 have hlen : r.n + m ≤ maxLen := by
  have : r.n + m ≤ 140737488355328 := Nat.le_trans (Nat.le_mul_of_pos_right _ hb0) hb
  unfold maxLen
  omega
 refine last_ _ (drop_at hi) hN hc hd (fun K hK => ?_)
 rw [if_pos hw]
 refine wp_append_lies w s x t ho w0.heap.size r.e i0 z r.sz bytes ht hi0 hz0 hz1 hz2 hz hs0 r.v r.n r.inner hs h5 ad m c news hx hl hn h1 hm hlen hb S0.below.size w.heap.size rfl ?_
 intro g cap w1 hown hg hat hlt
 have S2 := Sx.grew ST hown hg hat
 rw [hN]
 exact hK.out _ _ (h g cap w1 S2 (Sx.rd S2))
end
section
variable {P : Program} {ops : Array Oper} {rest : List Oper} {o : Oper} {a : Act} {Q : Exit → Act → World → Prop} {w0 w : World} {L : List Bk} {R : List Rw} {I : World → Prop}
theorem yP {r : Rw} (S : Aside0 (Sx w0 w L (r :: R) I)) {t : TypeId} {z : Value} {bytes : Nat} {ad : Addr} {m c : Nat} {news : List Value} (hn : ∀ j u, news[j]? = some u → w.cell? (ad.add j) = some u)
  (h : ∀ g cap w1, Aside0 (Sx w0 w1 L (⟨r.e, r.sz, .slice (some ⟨g, 0, none⟩) (r.n + m) cap, r.n + m, r.inner ++ news⟩ :: R) I) → Rd w1 L → wpList P ops Q rest (a.put o.dst (.slice (some ⟨g, 0, none⟩) (r.n + m) cap)) w1)
  (ht : P.underlying t = some (.slice r.e)) (hinfo : (P.info? r.e).map (fun i => (i.zero, i.size, i.bytes)) = some (some z, r.sz, bytes)) (hl : news.length = m * r.sz) (h1 : ∀ u ∈ news, u.oneCell' = true) (hm : 0 < m) (hb : (r.n + m) * bytes ≤ 140737488355328) (hb0 : 0 < bytes) (hz : z.cells.size = r.sz := by rfl) (hs0 : 0 < r.sz := by exact Nat.zero_lt_succ _)
  {s x : Operand} (ho : o.op = .call { callee := .builtin .append, args := #[s, x], argTypes := #[t, t] } := by rfl) (hgd : o.guard = none := by rfl) (hs : a.eval s = r.v := by rfl) (hx : a.eval x = .slice (some ad) m c := by rfl) : wpList P ops Q (o :: rest) a w := by
 obtain ⟨i0, hi, hzz⟩ := Option.map_eq_some_iff.1 hinfo
 simp only [Prod.mk.injEq] at hzz
 obtain ⟨hz0, hz1, hz2⟩ := hzz
 have S0 := S.out
 have h5 := S0.rows r (List.mem_cons_self ..)
 have hlen : r.n + m ≤ maxLen := by
  have : r.n + m ≤ 140737488355328 := Nat.le_trans (Nat.le_mul_of_pos_right _ hb0) hb
  unfold maxLen
  omega
 refine wpList_append_lies w hgd s x t ho w0.heap.size r.e i0 z r.sz bytes ht hi hz0 hz1 hz2 hz hs0 r.v r.n r.inner hs h5 ad m c news hx hl hn h1 hm hlen hb S0.below.size w.heap.size rfl ?_
 intro g cap w1 hown hg hat hlt
 exact h g cap w1 (Sx.grew S hown hg hat) (Sx.rd (Sx.grew S hown hg hat))
end
end Go.Proofs.YtgehkojccmkggaaDoor.K
end
section
namespace Go.Proofs.YtgehkojccmkggaaDoor.H
open Go.RowKit Go.Proofs.YtgehkojccmkggaaDoorW.PrintWords Go.Proofs.YtgehkojccmkggaaDoorW.PrintLast Go.Proofs.YtgehkojccmkggaaDoorW.PrintMore
attribute [local go_sem] max2_int min2_int max_two min_two max_three min_three max_four min_four   -- for this text's walks alone
set_option linter.unusedVariables false
set_option linter.unusedSimpArgs false
def saronlaw01_drawn.l0 : Nat → List Int → List Int → Int → List (S26) → List (S61) → List (S48) → Int → Int → Option (List Int)
 | 0, _, _, _, _, _, _, _, _ => none
 | k + 1, x1, x5, x6, x526000, x526001, x526002, x526003, x526004 => if x6 < (x526000.length : Int) then (if 0 ≤ x6 then ((saronref00_Nth.f x1 x6).bind fun t527 => ((saronref00_Draw.f ((rd_T26 x526000 x6).f0) ((rd_T26 x526000 x6).f1) t527).bind fun t528 => (if x5.length < 17592186044416 then (saronlaw01_drawn.l0 k x1 (x5 ++ [t528]) (wrap64 (x6 + 1)) x526000 x526001 x526002 x526003 x526004) else (none)))) else (none)) else (some x5)
def saronlaw01_drawn.f (k : Nat) (l0_0 : List (S26)) (l0_1 : List (S61)) (l0_2 : List (S48)) (a0_3 : Int) (a0_4 : Int) (l1 : List Int) : Option (List Int) := saronlaw01_drawn.l0 k l1 ([] : List Int) 0 l0_0 l0_1 l0_2 a0_3 a0_4
theorem saronlaw01_drawn.mono_l : ∀ k, (∀ y0 y1 y2 y3 y4 y5 y6 y7, LeO (saronlaw01_drawn.l0 k y0 y1 y2 y3 y4 y5 y6 y7) (saronlaw01_drawn.l0 (k + 1) y0 y1 y2 y3 y4 y5 y6 y7))
 | 0 => fun _ _ _ _ _ _ _ _ r h => by simp [saronlaw01_drawn.l0] at h
 | k + 1 => by
  have ih0 := saronlaw01_drawn.mono_l k
  ·intro y0 y1 y2 y3 y4 y5 y6 y7
   unfold saronlaw01_drawn.l0
   repeat' first
   | (with_reducible exact ih0 _ _ _ _ _ _ _ _)
   | (with_reducible exact LeO.refl _)
   | (with_reducible exact LeO.none _)
   | (with_reducible refine LeO.ite ?_ ?_)
   | (with_reducible refine LeO.bind ?_ (fun _ => ?_))
   | exact ih0 _ _ _ _ _ _ _ _
   | exact LeO.none _
   | refine LeO.ite ?_ ?_
   | refine LeO.bind ?_ (fun _ => ?_)
theorem saronlaw01_drawn.mono : ∀ a0 a1 a2 a3 a4 a5 k, LeO (saronlaw01_drawn.f k a0 a1 a2 a3 a4 a5) (saronlaw01_drawn.f (k + 1) a0 a1 a2 a3 a4 a5) := by
 intro a0 a1 a2 a3 a4 a5 k
 have ih0 := saronlaw01_drawn.mono_l k
 unfold saronlaw01_drawn.f
 repeat' first
   | (with_reducible exact ih0 _ _ _ _ _ _ _ _)
   | (with_reducible exact LeO.refl _)
   | (with_reducible exact LeO.none _)
   | (with_reducible refine LeO.ite ?_ ?_)
   | (with_reducible refine LeO.bind ?_ (fun _ => ?_))
   | exact ih0 _ _ _ _ _ _ _ _
   | exact LeO.none _
   | refine LeO.ite ?_ ?_
   | refine LeO.bind ?_ (fun _ => ?_)
def saronlaw01_drawn.T5 : Bool × List (List Nat × List Nat) := (true, [([], []), ([], []), ([1], [1]), ([], []), ([2, 3], [2, 3]), ([4], [4]), ([], []), ([], []), ([6, 7], [6, 7]), ([5, 8, 8], [5, 8]), ([9], [9]), ([0, 10, 9], [0, 10]), ([11, 11, 0, 1, 2, 3, 4, 5, 6, 7, 8, 9, 10, 11], [0, 11])])
def saronlaw01_drawn.B5 : List Nat := [0, 0, 2, 0, 14, 30, 0, 0, 192, 510, 1022, 2047, 4095]
theorem saronlaw01_drawn.tab5 : rtab .any (opsOf Tryd.f37 5) = saronlaw01_drawn.T5 := by kernel_rfl
theorem saronlaw01_drawn.bits5 : waitsOk saronlaw01_drawn.T5.2 saronlaw01_drawn.B5 = true := by kernel_rfl
set_option maxHeartbeats 8000000 in
set_option maxRecDepth 100000 in
theorem saronlaw01_drawn.calls (k : Nat) (A0_0 : Option Addr) (c0_0 : Nat) (l0_0 : List (S26)) (A0_1 : Option Addr) (c0_1 : Nat) (l0_1 : List (S61)) (A0_2 : Option Addr) (c0_2 : Nat) (l0_2 : List (S48)) (a0_3 : Int) (a0_4 : Int) (A1 : Option Addr) (c1 : Nat) (l1 : List Int) (r : List Int) (w : World) (hr0_0 : Kd.C k26 w A0_0 l0_0.length l0_0) (hc0_0 : l0_0.length ≤ c0_0) (hr0_1 : Kd.C k61 w A0_1 l0_1.length l0_1) (hc0_1 : l0_1.length ≤ c0_1) (hr0_2 : Kd.C k48 w A0_2 l0_2.length l0_2) (hc0_2 : l0_2.length ≤ c0_2) (hr1 : Kd.C (Kd.int .i64) w A1 l1.length l1) (hc1 : l1.length ≤ c1) (h : saronlaw01_drawn.f k l0_0 l0_1 l0_2 a0_3 a0_4 l1 = some r) :
  Calls Tryd.prog 37 #[.agg #[.slice A0_0 l0_0.length c0_0, .slice A0_1 l0_1.length c0_1, .slice A0_2 l0_2.length c0_2, .int .i64 a0_3, .int .i64 a0_4], .slice A1 l1.length c1] w fun e w' => ∃ v0_ : Value, e = .returned (v0_) ∧ Kd.R (Kd.int .i64) 3 w' w.heap.size (fun _ => True) v0_ r ∧ Below w.heap.size w w' := by
 have hu28 := Tryd.underlying28
 have hu26 := Tryd.underlying26
 have HR0_0 := zh hr0_0
 have HC0_0 := zh hc0_0
 clear hr0_0 hc0_0
 have HR0_1 := zh hr0_1
 have HC0_1 := zh hc0_1
 clear hr0_1 hc0_1
 have HR0_2 := zh hr0_2
 have HC0_2 := zh hc0_2
 clear hr0_2 hc0_2
 have HR1 := zh hr1
 have HC1 := zh hc1
 clear hr1 hc1
 have HB := zh (Below.refl w.heap.size w)
 have H : (saronlaw01_drawn.l0 k l1 ([] : List Int) 0 l0_0 l0_1 l0_2 a0_3 a0_4) = some r := h
 clear h
 have H' := zh H
 clear H
 go_enter Tryd.func37, Tryd.ntmps37
 go_wp2_with (first | ((with_reducible refine gate_dst (N := 2) rfl ?_); refine box_event ?hg (N := 2) ?hd (cs := #[.slice A0_0 l0_0.length c0_0, .slice A0_1 l0_1.length c0_1, .slice A0_2 l0_2.length c0_2, .int .i64 a0_3, .int .i64 a0_4]) (t := 28) ?hr ?_; (case hd => rfl); (case hg => rfl); (case hr => first | (go_simp; done) | (go_simp; rfl)); intro gb525 hg w3 hbox hb; have BK525 := zh (hbox); have GW525 := zh ((by rw [hg]; exact (below_size zb) : w.heap.size ≤ gb525)); have GE525 := zh ((by rw [hg]; exact (below_size zb) : w.heap.size ≤ gb525)); replace HB := zh (below_step zb hb); clear hb hbox hg))
 go_loopg [5, 6] k (fun kq v5 v6 w' => ∃ (x5_1 : List Int) (x6_1 : Int), v6 = .int .i64 x6_1 ∧ Aside0 (saronlaw01_drawn.l0 kq l1 x5_1 x6_1 l0_0 l0_1 l0_2 a0_3 a0_4 = some r) ∧ Aside0 (kq ≤ k) ∧ Aside0 (Kd.R (Kd.int .i64) 3 w' w.heap.size (fun _ => True) v5 x5_1) ∧ Aside0 (w'.heap[gb525]? = some (.cells #[(.slice A0_0 l0_0.length c0_0), (.slice A0_1 l0_1.length c0_1), (.slice A0_2 l0_2.length c0_2), .int .i64 a0_3, .int .i64 a0_4] 28 (0, 0))) ∧ Aside0 (Below w.heap.size w w'))
 case atStart => exact ⟨(([] : List Int)), (0), ze, H', ⟨Nat.le_refl _⟩, ⟨by first | exact Kd.R_nil _ _ _ _ _ | exact Kd.N_nil _ _ _ _ _ | exact Kd.V_nil _ _ _ _ _ | exact Kd.Q_nil _ _ _ _ _ | exact Kd.S_nil _ _ _ _ _⟩, ⟨zc BK525⟩, ⟨zb⟩⟩
 case round =>
  clear H'
  try clear c1
  try clear p2
  try clear c3
  obtain ⟨x5_1, x6_1, rfl, HA, HK1, HO_5, BK525, HB⟩ := hrel
  cases gk with
  | zero => exact absurd HA.out (by simp [saronlaw01_drawn.l0])
  | succ k1 =>
   have H := HA.out
   clear HA
   simp only [saronlaw01_drawn.l0] at H
   by_cases c4 : x6_1 < (l0_0.length : Int)
   ·rw [if_pos c4] at H
    have c4b0 : decide (x6_1 < (l0_0.length : Int)) = true := decide_eq_true c4
    clear c4
    by_cases c5 : 0 ≤ x6_1
    ·rw [if_pos c5] at H
     have c5b0 : decide (0 ≤ x6_1) = true := decide_eq_true c5
     clear c5
     replace H := Option.bind_eq_some_iff.mp H
     obtain ⟨t527, A60, H⟩ := H
     replace H : ((saronref00_Draw.f ((rd_T26 l0_0 x6_1).f0) ((rd_T26 l0_0 x6_1).f1) t527).bind fun t528 => (if x5_1.length < 17592186044416 then (saronlaw01_drawn.l0 k1 l1 (x5_1 ++ [t528]) (wrap64 (x6_1 + 1)) l0_0 l0_1 l0_2 a0_3 a0_4) else (none))) = some r := H
     have A6 := zh A60
     clear A60
     replace H := Option.bind_eq_some_iff.mp H
     obtain ⟨t528, A70, H⟩ := H
     replace H : (if x5_1.length < 17592186044416 then (saronlaw01_drawn.l0 k1 l1 (x5_1 ++ [t528]) (wrap64 (x6_1 + 1)) l0_0 l0_1 l0_2 a0_3 a0_4) else (none)) = some r := H
     have A7 := zh A70
     clear A70
     by_cases c8 : x5_1.length < 17592186044416
     ·rw [if_pos c8] at H
      have LMc8 := zh c8
      clear c8
      obtain ⟨y529, hy529⟩ : ∃ y_ : List Int, y_ = (x5_1 ++ [t528]) := ⟨_, rfl⟩
      replace H : (saronlaw01_drawn.l0 k1 l1 y529 (wrap64 (x6_1 + 1)) l0_0 l0_1 l0_2 a0_3 a0_4) = some r := by first | (rw [hy529]; with_reducible exact H) | (have H2_ := (Option.bind_some _ _).symm.trans H; rw [hy529]; with_reducible exact H2_) | (have H2_ := (Option.bind_some _ _).symm.trans H; with_reducible exact H2_) | with_reducible exact H | (rw [hy529]; exact H) | exact H
      have Ny529 := zh hy529
      clear hy529
      have H' := zh H
      clear H
      obtain ⟨hcz9_0, hcz9_1, hcz9_2, hcz9_3, hcz9_4⟩ := zC5 BK525.out
      obtain ⟨hfz9_0, hfz9_1, hfz9_2, hfz9_3, hfz9_4⟩ := zF5 BK525.out
      try go_wp2
      replace HO_5 := zh (Kd.R_drew HO_5.out)
      replace BK525 := zh (blk_drew BK525.out)
      replace HB := zh (below_drew1 HB.out)
      have p526 : 0 ≤ (x6_1 : Int) := of_decide_eq_true zs
      have q526 : x6_1 < (l0_0.length : Int) := of_decide_eq_true zs
      obtain ⟨ad526, e526, hx526_0, hx526_1⟩ := at_T26 HR0_0.out x6_1 p526 q526
      have hw526_1 := hx526_1
      have hw526_0 := hx526_0
      cases e526
      replace hx526_0 := ve HB.out hx526_0
      replace hx526_1 := ve HB.out hx526_1
      replace p526 := eq_true p526
      replace q526 := eq_true q526
      refine start_ (n := 13) (S := fun w' => w'.cell? ⟨gb525, 0, none⟩ = some (.slice (some ad526) l0_0.length c0_0) ∧ w'.cell? ⟨gb525, 1, none⟩ = some (.slice A0_1 l0_1.length c0_1) ∧ w'.cell? ⟨gb525, 2, none⟩ = some (.slice A0_2 l0_2.length c0_2) ∧ w'.cell? ⟨gb525, 3, none⟩ = some (.int .i64 a0_3) ∧ w'.cell? ⟨gb525, 4, none⟩ = some (.int .i64 a0_4) ∧ w'.cell? (ad526.add ((x6_1).toNat * 2)) = some (.int .i64 ((rd_T26 l0_0 x6_1).f0)) ∧ w'.cell? ⟨(ad526.add ((x6_1).toNat * 2)).block, (ad526.add ((x6_1).toNat * 2)).off + 1, none⟩ = some (.int .i64 ((rd_T26 l0_0 x6_1).f1))) (ds := []) (Array.replicate 13 false) zk rfl rfl ⟨vb BK525 0, vb BK525 1, vb BK525 2, vb BK525 3, vb BK525 4, (ve HB.out hw526_0 :), (ve HB.out hw526_1 :)⟩ (fun hHeld => ?_); refine with_tabW saronlaw01_drawn.tab5 saronlaw01_drawn.bits5 (fun HT_ HW_ => ?_)
      generalize wr.drew = w10 at HO_5 BK525 HB hx526_0 hx526_1 hHeld ⊢
      refine zu 0 ?_
      refine zu 1 ?_
      refine zu 3 ?_
      refine zu 6 ?_
      refine zu 7 ?_
      refine zt 2 ?_
      refine zu 4 ?_
      refine zt 5 ?_
      refine zo 8 (fun K hK => ?_)
      refine goes_ Tryd.func76 zk rfl #[.slice A1 l1.length c1, .int .i64 x6_1] (by rfl) rfl rfl zm ?_
      with_reducible refine (saronref00_Nth.calls _ _ l1 x6_1 t527 _ ?side1 ?side2 A6.out).mono ?_
      (case side1 => exact zKC HR1 HB)
      (case side2 => exact HC1.out)
      rintro e w' ⟨rfl, ⟨nd, rfl⟩⟩
      refine ⟨_, rfl, ?_⟩
      refine hK.out _ _ ⟨vb BK525 0, vb BK525 1, vb BK525 2, vb BK525 3, vb BK525 4, (ve HB.out hw526_0 :), (ve HB.out hw526_1 :)⟩ (fun hHeld => ?_)
      clear hK K
      refine zr 22 _ ?_
      refine zo 9 (fun K hK => ?_)
      refine goes_ Tryd.func45 zk rfl #[.agg #[.int .i64 ((rd_T26 l0_0 x6_1).f0), .int .i64 ((rd_T26 l0_0 x6_1).f1)], .int .i64 t527] (by rfl) rfl rfl zm ?_
      with_reducible refine (saronref00_Draw.calls ((rd_T26 l0_0 x6_1).f0) ((rd_T26 l0_0 x6_1).f1) t527 t528 _ A7.out).mono ?_
      rintro e w11 ⟨rfl, hb⟩
      refine ⟨_, rfl, ?_⟩
      have n0_ := zh (Kd.R_below (zR HO_5) hb)
      have n1_ := zX BK525 hb
      have n2_ := zh (below_step zb hb)
      clear HO_5 BK525 HB
      have HO_5 := n0_
      have BK525 := n1_
      have HB := n2_
      clear n0_ n1_ n2_
      (try clear hb)
      (try clear hb2)
      (try clear hk)
      (try clear hi)
      refine hK.out _ _ ⟨vb BK525 0, vb BK525 1, vb BK525 2, vb BK525 3, vb BK525 4, (ve HB.out hw526_0 :), (ve HB.out hw526_1 :)⟩ (fun hHeld => ?_)
      clear hK K
      refine zr 23 _ ?_
      refine zo 10 (fun K hK => ?_)
      refine value_ (w1 := ?_) (v := ?_) (by rfl) rfl ?_ ?_
      rotate_left 2
      ·go_simp
       constructor
       ·rfl
       ·rfl
      refine hK.out _ _ ⟨(blk_cell (blk_alloc BK525.out _) 0).trans rfl, (blk_cell (blk_alloc BK525.out _) 1).trans rfl, (blk_cell (blk_alloc BK525.out _) 2).trans rfl, (blk_cell (blk_alloc BK525.out _) 3).trans rfl, (blk_cell (blk_alloc BK525.out _) 4).trans rfl, (World.cell?_alloc_lt _ _ _ (World.block_lt_of_cell? _ _ ((ve HB.out hw526_0 :)))).trans ((ve HB.out hw526_0 :)), (World.cell?_alloc_lt _ _ _ (World.block_lt_of_cell? _ _ ((ve HB.out hw526_1 :)))).trans ((ve HB.out hw526_1 :))⟩ (fun hHeld => ?_)
      clear hK K
      refine zr 24 _ ?_
      refine zo 11 (fun K hK => ?_)
      refine Kd.R_append_step (Kd.int .i64) (w0 := w) w.heap.size (by rfl) (.tmp 14) (.tmp 24) 29 3 (.int .i64 0) 8 rfl Tryd.underlying29 info3 rfl (by decide) (by omega) u5 x5_1 t528 [.int .i64 t528] (fun _ => True) (fun _ => False) rfl rfl ?aP (fun _ hk => hk.elim) ?aF ?aO ?aB ?aS ?aL ?_
      (case aP => exact rfl)
      (case aB => exact zb)
      (case aF => exact (fun _ _ => trivial))
      (case aO => exact (zR HO_5))
      (case aS => exact (below_size zb))
      (case aL => have := LMc8.out; omega)
      intro v530 w12 ho hb hg hat
      rw [← Ny529.out] at ho
      replace BK525 := zh (blk_grown (g := gb525) (o := .cells #[.slice (some ad526) l0_0.length c0_0, .slice A0_1 l0_1.length c0_1, .slice A0_2 l0_2.length c0_2, .int .i64 a0_3, .int .i64 a0_4] 28 (0, 0)) (zc BK525) hg (Kd.R_ne HO_5.out BK525.out (by decide)))
      replace HB := zh (hb)
      have HO531 := zh (ho)
      clear HO_5 ho hb hg hat
      refine hK.out _ _ ⟨vb BK525 0, vb BK525 1, vb BK525 2, vb BK525 3, vb BK525 4, (ve HB.out hw526_0 :), (ve HB.out hw526_1 :)⟩ (fun hHeld => ?_)
      clear hK K
      refine zr 25 _ ?_
      refine zu 12 ?_
      refine zd ?_
      try go_wp2
      go_roundg k1
      case measure => have := HK1.out; omega
      case rel => exact ⟨(y529), (wrap64 (x6_1 + 1)), ze, H', ⟨by have := HK1.out; omega⟩, ⟨zR HO531⟩, ⟨zc BK525⟩, ⟨zb⟩⟩
     ·rw [if_neg c8] at H
      exact absurd H (by simp)
    ·rw [if_neg c5] at H
     exact absurd H (by simp)
   ·rw [if_neg c4] at H
    have c4b0 : decide (x6_1 < (l0_0.length : Int)) = false := decide_eq_false c4
    clear c4
    obtain rfl := Option.some.inj H
    obtain ⟨hcz13_0, hcz13_1, hcz13_2, hcz13_3, hcz13_4⟩ := zC5 BK525.out
    obtain ⟨hfz13_0, hfz13_1, hfz13_2, hfz13_3, hfz13_4⟩ := zF5 BK525.out
    go_wp2
    go_ret
    exact ⟨_, zf, (zR HO_5), zb⟩
end Go.Proofs.YtgehkojccmkggaaDoor.H
end
section
namespace Go.Proofs.YtgehkojccmkggaaDoor.K
open Go.RowKit Go.Shelf Go.Proofs.YtgehkojccmkggaaDoorW.PrintWords Go.Proofs.YtgehkojccmkggaaDoorW.PrintLast Go.Proofs.YtgehkojccmkggaaDoorW.PrintMore Go.Proofs.YtgehkojccmkggaaDoor.H Tune
set_option linter.unusedVariables false
set_option linter.unusedSimpArgs false
attribute [local go_sem] Oper.semAt_some
section
variable {α : Type} {d : Kd α} {w0 w w1 : World} {base e : Nat} {v : Value} {xs : List α} {inner : List Value} {L : List Bk} {R : List Rw} {I : World → Prop}
theorem C_of_own (h : w.ownsRow base e d.sz v xs.length inner) (hr : Reps (d.K w) d.sz xs inner) : ∃ A c, v = .slice A xs.length c ∧ xs.length ≤ c ∧ Kd.C d w A xs.length xs := OwnRow.reads ⟨inner, h, hr⟩
theorem reps_ints (w : World) (l : List Int) : Reps ((Kd.int .i64).K w) 1 l (nums .i64 l) := by
 refine ⟨by simp [nums], fun j p hj => ?_⟩
 show ((nums .i64 l).drop (j * 1)).take 1 = [.int .i64 p]
 obtain ⟨hlt, hp⟩ := List.getElem?_eq_some_iff.1 hj
 have h2 : j < (nums .i64 l).length := by simp [nums]; exact hlt
 rw [Nat.mul_one, List.drop_eq_getElem_cons h2]
 simp [nums, hp]
theorem ints_own {l : List Int} (h : w.ownsRow base e 1 v l.length (nums .i64 l)) : ∃ A c, v = .slice A l.length c ∧ l.length ≤ c ∧ Kd.C (Kd.int .i64) w A l.length l := C_of_own (d := Kd.int .i64) h (reps_ints w l)
theorem ints_own' {l : List Int} {A : Option Addr} {n c : Nat} (h : w.ownsRow base e 1 (.slice A n c) l.length (nums .i64 l)) : n = l.length ∧ l.length ≤ c ∧ Kd.C (Kd.int .i64) w A l.length l := by
 obtain ⟨A', c', e1, h1, h2⟩ := ints_own h
 injection e1 with e1 e2 e3
 subst e1 e3
 exact ⟨e2, h1, h2⟩
theorem lit_cells {g : Nat} {cs : Array Value} {t : TypeId} {o : Bool} (h : Aside0 (Sx w0 w (⟨g, cs, t, o⟩ :: L) R I)) : ∀ j u, cs.toList[j]? = some u → w.cell? ((⟨g, 0, none⟩ : Addr).add j) = some u := fun j u hu => by
 rw [Addr.add_lit, Nat.zero_add, blk_cell h.out.blks.1, ← Array.getElem?_toList]
 exact hu
theorem Sx.rowEq {r q : Rw} (h : Aside0 (Sx w0 w L (r :: R) I)) (e : r = q) : Aside0 (Sx w0 w L (q :: R) I) := e ▸ h
theorem Sx.fresh (S : Aside0 (Sx w0 w L R I)) (hb : Below w.heap.size w w1) {n sz : Nat} (ho : w1.ownsRow w.heap.size e sz v n inner) : Aside0 (Sx w0 w1 L (⟨e, sz, v, n, inner⟩ :: R) I) := by
 have h2 := Sx.call S hb
 obtain ⟨⟨a1, a2, a3, a4, a5, a6, a7, ok, b1, b2, b3, b4⟩⟩ := S
 obtain ⟨⟨c1, c2, c3, c4, c5, c6, c7, _⟩⟩ := h2
 refine ⟨⟨c1, c2, c3, c4, ?_, ?_, List.Pairwise.cons ?_ c7, ok, b1.step (fun k _ hlt => hb.block k hlt), (fun k hk => by have := b2 k hk; have := hb.size; omega), b3, ?_⟩⟩
 ·intro r hr
  rcases List.mem_cons.1 hr with rfl | hr
  ·exact own_less ho a1.size
  ·exact c5 r hr
 ·intro r hr k hk x hx
  rcases List.mem_cons.1 hr with rfl | hr
  ·have := (ho.lt k hk).1
   have := blk_lt (a2.of_mem hx)
   omega
  ·exact c6 r hr k hk x hx
 ·intro q hq k hk e2
  have := (ho.lt k hk).1
  have := ((a5 q hq).lt k e2).2
  omega
 ·intro k hk r hr
  rcases List.mem_cons.1 hr with rfl | hr
  ·intro e2
   have := (ho.lt k e2).1
   have := b2 k hk
   omega
  ·exact b4 k hk r hr
end
section
variable {P : Program} {ops : Array Oper} {rest : List Oper} {o : Oper} {a : Act} {Q : Exit → Act → World → Prop} {w0 w : World} {L : List Bk} {R : List Rw} {I : World → Prop}
theorem yF (S : Aside0 (Sx w0 w L R I)) {cs : Array Value} {t : TypeId} {F : Nat → Value} (h : ∀ g w1, Aside0 (Sx w0 w1 (⟨g, cs, t, true⟩ :: L) R I) → Rd w1 (⟨g, cs, t, true⟩ :: L) → wpList P ops Q rest (a.put o.dst (F g)) w1)
  (hgd : o.guard = none := by rfl) (hrun : (execOp a.eval o).run P w = .ok (.value (F w.heap.size)) (w.alloc (.cells cs t (0, 0))) := by first | (go_simp; done) | (go_simp; rfl)) : wpList P ops Q (o :: rest) a w :=
 Kd.event_run hgd hrun (h _ _ (Sx.alloc S cs t) (Sx.rd (Sx.alloc S cs t)))
theorem yR (S : Aside0 (Sx w0 w L R I)) {N : Option Tmp} {f : FuncId} {args : Array Value} {e sz n : Nat} {inner : List Value} (hC : Calls P f args w fun r w' => ∃ v, r = .returned v ∧ w'.ownsRow w.heap.size e sz v n inner ∧ Below w.heap.size w w') (h : ∀ v w1, Aside0 (Sx w0 w1 L (⟨e, sz, v, n, inner⟩ :: R) I) → Rd w1 L → wpList P ops Q rest (a.put N v) w1)
  {fn : Func} {ao : Array Operand} {ts : Array TypeId} (hf : P.funcs[f]? = some fn) (hd : o.dst = N := by rfl) (hg : o.guard = none := by rfl) (hname : (fn.name == "runtime.NumGoroutine") = false := by exact zk) (hb : fn.body.isSome = true := by rfl)
  (hop : o.op = .call { callee := .value (.func f), args := ao, argTypes := ts } := by rfl) (hargs : ao.map a.eval = args := by exact zm) : wpList P ops Q (o :: rest) a w := by
 refine goesL_ N hd hg hf hname hb args hop hargs (hC.mono ?_)
 rintro r w1 ⟨v, rfl, ho, hb⟩
 exact ⟨_, rfl, h v w1 (Sx.fresh S hb ho) (Sx.rd (Sx.fresh S hb ho))⟩
end
section
variable {A0 : Option Addr} {c0 : Nat} {h : List S26} {A1 : Option Addr} {c1 : Nat} {s : List S61} {A2 : Option Addr} {c2 : Nat} {p : List S48} {w : World} {b0 b1 : Int}
theorem cDrawn (X : At A0 c0 h A1 c1 s A2 c2 p w) {k : Nat} {B : Option Addr} {d : Nat} {bits l : List Int} (hB : Kd.C (Kd.int .i64) w B bits.length bits) (hd : bits.length ≤ d) (hr : saronlaw01_drawn.f k h s p b0 b1 bits = some l) : Calls Tryd.prog 37 #[.agg (sc A0 c0 h A1 c1 s A2 c2 p b0 b1), .slice B bits.length d] w fun e w' => ∃ v, e = .returned v ∧ w'.ownsRow w.heap.size 3 1 v l.length (nums .i64 l) ∧ Below w.heap.size w w' := by
 refine (saronlaw01_drawn.calls k A0 c0 h A1 c1 s A2 c2 p b0 b1 B d bits l w X.d0 X.n0 X.d1 X.n1 X.d2 X.n2 hB hd hr).mono ?_
 rintro e w' ⟨v, rfl, hR, hb⟩
 obtain ⟨_, inner, ho, hreps⟩ := hR
 have e1 : inner = nums .i64 l := by
  have hs : (Kd.int .i64).sz = 1 := rfl
  rw [hs] at hreps
  apply List.ext_getElem?
  intro j
  by_cases hj : j < l.length
  ·have h1 := hreps.2 j _ (List.getElem?_eq_getElem hj)
   have h2 : (inner.drop (j * 1)).take 1 = [.int .i64 l[j]] := h1
   have hlen : inner.length = l.length := by rw [hreps.1, Nat.mul_one]
   rw [Nat.mul_one, List.drop_eq_getElem_cons (by omega)] at h2
   simp only [List.take_succ_cons, List.take_zero, List.cons.injEq, and_true] at h2
   rw [List.getElem?_eq_getElem (by omega), h2]
   simp [nums, hj]
  ·rw [List.getElem?_eq_none (by rw [hreps.1]; omega), List.getElem?_eq_none (by simp [nums]; omega)]
 rw [e1] at ho
 exact ⟨v, rfl, ho, hb⟩
theorem cTuned (X : At A0 c0 h A1 c1 s A2 c2 p w) (N : Neat h s p b0 b1) {B : Option Addr} {d : Nat} {l : List Int} (hl : Heard h.length l) (hB : Kd.C (Kd.int .i64) w B l.length l) (hd : l.length ≤ d) : Calls Tryd.prog 43 #[.agg (sc A0 c0 h A1 c1 s A2 c2 p b0 b1), .slice B l.length d] w fun e w' => e = .returned (.bool ((jsOf h s p b0 b1).all (fitJ (b0, b1) l))) ∧ Below w.heap.size w w' := by
 obtain ⟨K, hK⟩ := tuned_law N hl
 exact saronlaw01_tuned.calls K A0 c0 h A1 c1 s A2 c2 p b0 b1 B d l _ w X.d0 X.n0 X.d1 X.n1 X.d2 X.n2 hB hd (hK K (Nat.le_refl _))
theorem cIsTuning (X : At A0 c0 h A1 c1 s A2 c2 p w) {B : Option Addr} {d : Nat} {l : List Int} (hB : Kd.C (Kd.int .i64) w B l.length l) (hd : l.length ≤ d) {r1 : Bool} {r2 : Int} (hr : tune_IsTuning.f h s p b0 b1 l = some (r1, r2)) : Calls Tryd.prog 16 #[.agg (sc A0 c0 h A1 c1 s A2 c2 p b0 b1), .slice B l.length d] w fun e w' => e = .returned (.tuple #[.bool r1, .int .i64 r2]) ∧ Below w.heap.size w w' :=
 tune_IsTuning.calls A0 c0 h A1 c1 s A2 c2 p b0 b1 B d l r1 r2 w X.d0 X.n0 X.d1 X.n1 X.d2 X.n2 hB hd X.gl hr
theorem cSure (X : At A0 c0 h A1 c1 s A2 c2 p w) {r1 : Bool} {r2 : Int} (hr : tune_Sure.f h s p b0 b1 = some (r1, r2)) : Calls Tryd.prog 31 #[.agg (sc A0 c0 h A1 c1 s A2 c2 p b0 b1)] w fun e w' => e = .returned (.tuple #[.bool r1, .int .i64 r2]) ∧ Below w.heap.size w w' :=
 tune_Sure.calls A0 c0 h A1 c1 s A2 c2 p b0 b1 r1 r2 w X.d0 X.n0 X.d1 X.n1 X.d2 X.n2 X.gl hr
theorem cWrong (X : At A0 c0 h A1 c1 s A2 c2 p w) {r : List Int} {r2 : Int} (hr : tune_Wrong.f h s p b0 b1 = some (r, r2)) : Calls Tryd.prog 33 #[.agg (sc A0 c0 h A1 c1 s A2 c2 p b0 b1)] w fun e w' => ∃ v : Option Addr × Nat, e = .returned (.tuple #[.slice v.1 r.length v.2, .int .i64 r2]) ∧ (r.length ≤ v.2 ∧ Kd.C (Kd.int .i64) w' v.1 r.length r) ∧ Below w.heap.size w w' := by
 refine (tune_Wrong.calls A0 c0 h A1 c1 s A2 c2 p b0 b1 r r2 w X.d0 X.n0 X.d1 X.n1 X.d2 X.n2 X.gl hr).mono ?_
 rintro e w' ⟨v, rfl, ⟨A, c, rfl, hc, hF⟩, hb⟩
 exact ⟨(A, c), rfl, ⟨hc, Kd.F_now hF⟩, hb⟩
theorem cBit (n i : Int) {r : Bool} (hr : saronref00_Bit.f n i = some r) : Calls Tryd.prog 47 #[.int .i64 n, .int .i64 i] w fun e w' => e = .returned (.bool r) ∧ Below w.heap.size w w' := (saronref00_Bit.calls n i r w hr).mono fun _ _ hh => ⟨hh.1, Drawn0.belowZ hh.2⟩
end
end Go.Proofs.YtgehkojccmkggaaDoor.K
end
section
namespace Go.Proofs.YtgehkojccmkggaaDoor.K
open Go.RowKit Go.Shelf Go.Proofs.YtgehkojccmkggaaDoorW.PrintWords Go.Proofs.YtgehkojccmkggaaDoorW.PrintLast Go.Proofs.YtgehkojccmkggaaDoorW.PrintMore Go.Proofs.YtgehkojccmkggaaDoor.H Tune
set_option linter.unusedVariables false
set_option linter.unusedSimpArgs false
attribute [local go_sem] Oper.semAt_some
def InSpans (h : List S26) (l : List Int) : Prop := l.length = h.length ∧ ∀ i, i < h.length → loH h i ≤ l.getD i 0 ∧ l.getD i 0 ≤ hiH h i
section
variable {h : List S26} {s : List S61} {p : List S48} {b0 b1 : Int} {l : List Int}
theorem heard_of {js : List J} (F : Fine h js) (hl : InSpans h l) : Heard h.length l := by
 refine ⟨hl.1, fun x hx => ?_⟩
 obtain ⟨i, hi, rfl⟩ := List.getElem_of_mem hx
 have h1 := hl.2 i (by have := hl.1; omega)
 rw [show l.getD i 0 = l[i] by simp [List.getD_eq_getElem?_getD, hi]] at h1
 have h2 := F.span i (by have := hl.1; omega)
 omega
theorem rd26_span (i : Nat) (hi : i < h.length) : (rd_T26 h (i : Int)).f0 = loH h i ∧ (rd_T26 h (i : Int)).f1 = hiH h i := ⟨rfl, rfl⟩
theorem drawn_loop {js : List J} (F : Fine h js) (bits : List Int) (hb : bits.length ≤ 9000000) : ∀ (d i : Nat) (x : List Int), i + d = h.length → x.length = i → (∀ m, m < i → loH h m ≤ x.getD m 0 ∧ x.getD m 0 ≤ hiH h m) →
  ∃ k r, saronlaw01_drawn.l0 k bits x (i : Int) h s p b0 b1 = some r ∧ InSpans h r := by
 have hf := F.few
 intro d
 induction d with
 | zero =>
  intro i x hi hx hs
  refine ⟨1, x, by rw [saronlaw01_drawn.l0, if_neg (by omega)], by omega, fun m hm => hs m (by omega)⟩
 | succ d ih =>
  intro i x hi hx hs
  have hlt : i < h.length := by omega
  obtain ⟨v, hv⟩ := nth_some bits (i : Int) hb
  have hsp := F.span i hlt
  obtain ⟨u, hu, u1, u2⟩ := draw_in (loH h i) (hiH h i) v (by omega) (by omega) (by omega)
  obtain ⟨k, r, hk, hr⟩ := ih (i + 1) (x ++ [u]) (by omega) (by simp [hx]) (fun m hm => by
   rcases Nat.lt_or_ge m i with h1 | h1
   ·rw [show (x ++ [u]).getD m 0 = x.getD m 0 by simp [List.getD_eq_getElem?_getD, List.getElem?_append_left (show m < x.length by omega)]]
    exact hs m h1
   ·obtain rfl : m = i := by omega
    rw [show (x ++ [u]).getD m 0 = u by simp [List.getD_eq_getElem?_getD, ← hx]]
    exact ⟨u1, u2⟩)
  refine ⟨k + 1, r, ?_, hr⟩
  rw [saronlaw01_drawn.l0, if_pos (by omega), if_pos (by omega), hv]
  simp only [Option.bind_some]
  rw [(rd26_span i hlt).1, (rd26_span i hlt).2, hu]
  simp only [Option.bind_some]
  rw [if_pos (by omega), wsucc _ (by omega)]
  exact hk
theorem drawn_law {js : List J} (F : Fine h js) (bits : List Int) (hb : bits.length ≤ 9000000) : ∃ r, InSpans h r ∧ ∃ K, ∀ k, K ≤ k → saronlaw01_drawn.f k h s p b0 b1 bits = some r := by
 have hm : ∀ k, LeO (saronlaw01_drawn.f k h s p b0 b1 bits) (saronlaw01_drawn.f (k + 1) h s p b0 b1 bits) := saronlaw01_drawn.mono h s p b0 b1 bits
 obtain ⟨K, r, hK, hr⟩ := drawn_loop (s := s) (p := p) (b0 := b0) (b1 := b1) F bits hb h.length 0 [] (by omega) rfl (fun m hm => by omega)
 exact ⟨r, hr, K, fun k hk => le_mono (F := fun k => saronlaw01_drawn.f k h s p b0 b1 bits) hm hK hk⟩
theorem isTB_in (hc : checkT h s p b0 b1 = 0) (hl : InSpans h l) : isTB h s p b0 b1 l = (jsOf h s p b0 b1).all (fitJ (b0, b1) l) := by
 unfold isTB isT
 have h1 : (List.range h.length).all (inSpan h l) = true := by
  rw [List.all_eq_true]
  intro x hx
  have h2 := hl.2 x (List.mem_range.1 hx)
  unfold inSpan
  rw [decide_eq_true h2.1, decide_eq_true h2.2]
  rfl
 rw [decide_eq_true hc, decide_eq_true hl.1, h1]
 rfl
theorem sure_fit {js : List J} (F : Fine h js) {b : Int × Int} (hs : js.all (sureJ h b) = true) (hl : InSpans h l) : js.all (fitJ b l) = true := by
 rw [List.all_eq_true] at hs ⊢
 intro j hj
 have h1 := hs j hj
 obtain ⟨_, j1, j2, _⟩ := F.joins j hj
 unfold sureJ at h1
 rw [List.all_eq_true] at h1
 have h2 := h1 _ (mem_irange.2 (hl.2 _ j1))
 rw [List.all_eq_true] at h2
 exact h2 _ (mem_irange.2 (hl.2 _ j2))
theorem wrong_none (hc : checkT h s p b0 b1 = 0) (ht : tunS h (jsOf h s p b0 b1) noLeft (b0, b1) [] = true) : wrongT h s p b0 b1 = [] := by
 have h1 : chooseF (wrongP h s p b0 b1) h.length (0 + 1) [] 0 = some [] := by
  unfold chooseF
  rw [if_pos (show ([] : List Int).length = 0 from rfl), if_pos]
  unfold wrongP
  rw [show lfOf [] = noLeft by funext k; rfl]
  exact ht
 unfold wrongT
 rw [if_pos hc]
 unfold wrongGo
 rw [h1]
 rfl
theorem tun_of_in {js : List J} (F : Fine h js) {b : Int × Int} (hl : InSpans h l) (hf : js.all (fitJ b l) = true) : tunS h js noLeft b [] = true := by
 rw [tunS_iff F.joins]
 refine ⟨fun x => l.getD x 0, (isT_iff.1 ?_).2⟩
 unfold isT
 have h1 : (List.range h.length).all (inSpan h l) = true := by
  rw [List.all_eq_true]
  intro x hx
  have h2 := hl.2 x (List.mem_range.1 hx)
  unfold inSpan
  rw [decide_eq_true h2.1, decide_eq_true h2.2]
  rfl
 rw [decide_eq_true hl.1, h1, hf]
 rfl
def endsL (h : List S26) (S : Nat) : List Int := (List.range h.length).map fun i => if S.testBit i then hiH h i else loH h i
theorem endsL_at (S i : Nat) (hi : i < h.length) : (endsL h S).getD i 0 = if S.testBit i then hiH h i else loH h i := by
 unfold endsL
 simp [List.getD_eq_getElem?_getD, hi]
theorem endsL_in {js : List J} (F : Fine h js) (S : Nat) : InSpans h (endsL h S) := by
 refine ⟨by simp [endsL], fun i hi => ?_⟩
 rw [endsL_at S i hi]
 have := F.span i hi
 split <;> omega
theorem ends_bad {js : List J} (F : Fine h js) {b : Int × Int} (hs : js.all (sureJ h b) = false) : ∃ S, S < 2 ^ h.length ∧ js.all (fitJ b (endsL h S)) = false := by
 rw [List.all_eq_false] at hs
 obtain ⟨j, hj, h1⟩ := hs
 obtain ⟨hok, j1, j2, hne⟩ := F.joins j hj
 obtain ⟨o1, _, o3, _⟩ := hok
 have hb : ∃ p q, loH h j.one ≤ p ∧ p ≤ hiH h j.one ∧ loH h j.two ≤ q ∧ q ≤ hiH h j.two ∧ fitB b j p q = false := by
  have h1 : sureJ h b j = false := by simpa using h1
  unfold sureJ at h1
  rw [List.all_eq_false] at h1
  obtain ⟨p, hp, h2⟩ := h1
  have h2 : ((irange (loH h j.two) (hiH h j.two)).all fun q => fitB b j p q) = false := by simpa using h2
  rw [List.all_eq_false] at h2
  obtain ⟨q, hq, h3⟩ := h2
  exact ⟨p, q, (mem_irange.1 hp).1, (mem_irange.1 hp).2, (mem_irange.1 hq).1, (mem_irange.1 hq).2, by simpa using h3⟩
 obtain ⟨p, q, p1, p2, q1, q2, hf⟩ := hb
 have key : fitB b j (hiH h j.one) (loH h j.two) = false ∨ fitB b j (loH h j.one) (hiH h j.two) = false := by
  unfold fitB at hf ⊢
  cases hst : j.step with
  | true =>
   rw [hst] at hf
   simp only [if_true, Bool.and_eq_false_iff, decide_eq_false_iff_not] at hf ⊢
   rcases hf with hf | hf
   ·left; left
    have := Int.mul_le_mul_of_nonneg_left p2 o1
    omega
   ·right; right
    have := Int.mul_le_mul_of_nonneg_left p1 o3
    omega
  | false =>
   rw [hst] at hf
   simp only [Bool.false_eq_true, if_false, Bool.and_eq_false_iff, decide_eq_false_iff_not] at hf ⊢
   omega
 have fin : ∀ S, S < 2 ^ h.length → fitJ b (endsL h S) j = false → ∃ S, S < 2 ^ h.length ∧ js.all (fitJ b (endsL h S)) = false := fun S hS hf => ⟨S, hS, by rw [List.all_eq_false]; exact ⟨j, hj, by rw [hf]; decide⟩⟩
 rcases key with hk | hk
 ·refine fin (2 ^ j.one) (Nat.pow_lt_pow_right (by decide) j1) ?_
  unfold fitJ
  rw [endsL_at _ _ j1, endsL_at _ _ j2, Nat.testBit_two_pow_self, Nat.testBit_two_pow_of_ne hne]
  exact hk
 ·refine fin (2 ^ j.two) (Nat.pow_lt_pow_right (by decide) j2) ?_
  unfold fitJ
  rw [endsL_at _ _ j1, endsL_at _ _ j2, Nat.testBit_two_pow_self, Nat.testBit_two_pow_of_ne (Ne.symm hne)]
  exact hk
theorem bit_f (S i : Nat) (hS : S < 256) (hi : i < 8) : saronref00_Bit.f (S : Int) (i : Int) = some (S.testBit i) := by
 have H : ∀ (S : Fin 256) (i : Fin 8), saronref00_Bit.f (S.val : Int) (i.val : Int) = some (S.val.testBit i.val) := by decide +kernel
 exact H ⟨S, hS⟩ ⟨i, hi⟩
end
end Go.Proofs.YtgehkojccmkggaaDoor.K
end
section
namespace Go.Proofs.YtgehkojccmkggaaDoor.K
open Go.RowKit Go.Shelf Go.Proofs.YtgehkojccmkggaaDoorW.PrintWords Go.Proofs.YtgehkojccmkggaaDoorW.PrintLast Go.Proofs.YtgehkojccmkggaaDoorW.PrintMore Go.Proofs.YtgehkojccmkggaaDoor.H Tune
set_option linter.unusedVariables false
set_option linter.unusedSimpArgs false
attribute [local go_sem] Oper.semAt_some
attribute [local go_sem high] eqA26
attribute [local go_sem] max2_int min2_int max_two min_two
theorem pow_w (n : Nat) (hn : n ≤ 8) : wrap64 ((2 : Int) ^ n) = ((2 ^ n : Nat) : Int) := by
 have H : ∀ n : Fin 9, wrap64 ((2 : Int) ^ n.val) = ((2 ^ n.val : Nat) : Int) := by decide +kernel
 exact H ⟨n, by omega⟩
theorem nums_snoc (l : List Int) (i : Nat) (hi : i < l.length) (x : Int) (hx : l.getD i 0 = x) : nums .i64 (l.take i) ++ [.int .i64 x] = nums .i64 (l.take (i + 1)) := by
 rw [List.take_succ_eq_append_getElem hi, show l[i] = x by rw [← hx]; simp [List.getD_eq_getElem?_getD, hi]]
 simp [nums]
section
variable {A0 : Option Addr} {c0 : Nat} {h : List S26} {A1 : Option Addr} {c1 : Nat} {s : List S61} {A2 : Option Addr} {c2 : Nat} {p : List S48} {w : World} {b0 b1 : Int} {B : Option Addr} {d : Nat} {bits : List Int} (H : Aside0 (At A0 c0 h A1 c1 s A2 c2 p w))
include H
set_option maxRecDepth 100000 in
set_option maxHeartbeats 4000000 in
theorem sure_A (HS : decide (checkT h s p b0 b1 = 0) = false) (HSU : Aside0 (tune_Sure.f h s p b0 b1 = some (false, 10)))  :
  Calls Tryd.prog 13 #[.agg #[.slice A0 h.length c0, .slice A1 s.length c1, .slice A2 p.length c2, .int .i64 b0, .int .i64 b1], .slice B bits.length d] w fun e w' => e = .returned (.bool true) ∧ Below w.heap.size w w' := by
 have ST := Sx.start w
 have HC : True := trivial
 go_enter Tryd.func13, Tryd.ntmps13
 go_wp2_with (first | ((with_reducible refine gate_dst (N := 2) rfl ?_); refine yA ST (N := 2) (cs := #[.slice A0 h.length c0, .slice A1 s.length c1, .slice A2 p.length c2, .int .i64 b0, .int .i64 b1]) (t := 28) ?_; clear ST HC; intro g2 v ST HC; simp only [Rd] at HC) | ((with_reducible refine gate_dst (N := 19) rfl ?_); refine yC ST (N := some 19) (cSure (H.out.below ST.out.below) HSU.out) ?_ Tryd.func31; clear ST HC; intro v ST HC; simp only [Rd] at HC) | ((with_reducible refine gate_dst (N := 23) rfl ?_); refine yC ST (N := some 23) (cSound H HS _ ST.out.below) ?_ Tryd.func36; clear ST HC; intro v ST HC; simp only [Rd] at HC) | ((with_reducible refine gate_dst (N := 32) rfl ?_); refine gate_guard (by rfl) ?_; refine yC ST (N := some 32) (cPlayed H _ ST.out.below) ?_ Tryd.func22; clear ST HC; intro v ST HC; simp only [Rd] at HC))
 go_ret
 exact ⟨rfl, ST.out.below⟩
set_option maxRecDepth 100000 in
set_option maxHeartbeats 4000000 in
theorem sure_B (hB : Kd.C (Kd.int .i64) w B bits.length bits) (hd : bits.length ≤ d) (HS : decide (checkT h s p b0 b1 = 0) = true) (HSU : Aside0 (tune_Sure.f h s p b0 b1 = some (true, 0))) {k : Nat} {l : List Int} (HD : Aside0 (saronlaw01_drawn.f k h s p b0 b1 bits = some l)) (HI : Aside0 (tune_IsTuning.f h s p b0 b1 l = some (true, 0))) (HW : Aside0 (tune_Wrong.f h s p b0 b1 = some ([], 0))) :
  Calls Tryd.prog 13 #[.agg #[.slice A0 h.length c0, .slice A1 s.length c1, .slice A2 p.length c2, .int .i64 b0, .int .i64 b1], .slice B bits.length d] w fun e w' => e = .returned (.bool true) ∧ Below w.heap.size w w' := by
 have HB := zh hB
 clear hB
 have ST := Sx.start w
 have HC : True := trivial
 go_enter Tryd.func13, Tryd.ntmps13
 go_wp2_with (first | ((with_reducible refine gate_dst (N := 2) rfl ?_); refine yA ST (N := 2) (cs := #[.slice A0 h.length c0, .slice A1 s.length c1, .slice A2 p.length c2, .int .i64 b0, .int .i64 b1]) (t := 28) ?_; clear ST HC; intro g2 v ST HC; simp only [Rd] at HC) | ((with_reducible refine gate_dst (N := 19) rfl ?_); refine yC ST (N := some 19) (cSure (H.out.below ST.out.below) HSU.out) ?_ Tryd.func31; clear ST HC; intro v ST HC; simp only [Rd] at HC) | ((with_reducible refine gate_dst (N := 23) rfl ?_); refine yC ST (N := some 23) (cSound H HS _ ST.out.below) ?_ Tryd.func36; clear ST HC; intro v ST HC; simp only [Rd] at HC) | ((with_reducible refine gate_dst (N := 38) rfl ?_); refine yR ST (N := some 38) (cDrawn (b0 := b0) (b1 := b1) (H.out.below ST.out.below) (Kd.C_below HB.out ST.out.below) hd HD.out) ?_ Tryd.func37; clear ST HC; intro vl v ST HC; simp only [Rd] at HC; obtain ⟨A, c, hvl, hc, hC⟩ := ints_own (ST.out.rows _ (List.mem_cons_self ..)); have HL := zh hC; clear hC; subst hvl) | ((with_reducible refine gate_dst (N := 43) rfl ?_); refine yC ST (N := some 43) (cIsTuning (H.out.below ST.out.below) HL.out hc HI.out) ?_ Tryd.func16; clear ST HC; intro v ST HC; simp only [Rd] at HC) | ((with_reducible refine gate_dst (N := 48) rfl ?_); refine yX ST (N := some 48) (F := fun v : Option Addr × Nat => .tuple #[.slice v.1 ([] : List Int).length v.2, .int .i64 0]) (cWrong (H.out.below ST.out.below) HW.out) ?_ Tryd.func33; clear ST HC; intro vw v _ ST HC; simp only [Rd] at HC) | ((with_reducible refine gate_dst (N := 66) rfl ?_); refine gate_guard (by rfl) ?_; refine yC ST (N := some 66) (cPlayed H _ ST.out.below) ?_ Tryd.func22; clear ST HC; intro v ST HC; simp only [Rd] at HC))
 go_ret
 exact ⟨rfl, ST.out.below⟩
set_option maxRecDepth 100000 in
set_option maxHeartbeats 4000000 in
theorem sure_C (hB : Kd.C (Kd.int .i64) w B bits.length bits) (hd : bits.length ≤ d) (hn : 1 ≤ h.length ∧ h.length ≤ 8) (HS : decide (checkT h s p b0 b1 = 0) = true) (HSU : Aside0 (tune_Sure.f h s p b0 b1 = some (false, 0))) {k : Nat} {l : List Int} (HD : Aside0 (saronlaw01_drawn.f k h s p b0 b1 bits = some l)) {S0 : Nat} (hS0 : S0 < 2 ^ h.length) (HS0 : Aside0 ((jsOf h s p b0 b1).all (fitJ (b0, b1) (endsL h S0)) = false)) (HN : Aside0 (Neat h s p b0 b1)) (HHE0 : Aside0 (∀ m, Heard h.length (endsL h m))) (HIT0 : Aside0 (∀ m, (jsOf h s p b0 b1).all (fitJ (b0, b1) (endsL h m)) = false → tune_IsTuning.f h s p b0 b1 (endsL h m) = some (false, 0))) :
  Calls Tryd.prog 13 #[.agg #[.slice A0 h.length c0, .slice A1 s.length c1, .slice A2 p.length c2, .int .i64 b0, .int .i64 b1], .slice B bits.length d] w fun e w' => e = .returned (.bool true) ∧ Below w.heap.size w w' := by
 have HB := zh hB
 clear hB
 obtain ⟨hn1, hn8⟩ := hn
 have i8 : (h.length : Int) ≤ 8 := by omega
 have i1 : 1 ≤ (h.length : Int) := by omega
 have ST := Sx.start w
 have HC : True := trivial
 go_enter Tryd.func13, Tryd.ntmps13
 go_wp2_with (first | ((with_reducible refine gate_dst (N := 2) rfl ?_); refine yA ST (N := 2) (cs := #[.slice A0 h.length c0, .slice A1 s.length c1, .slice A2 p.length c2, .int .i64 b0, .int .i64 b1]) (t := 28) ?_; clear ST HC; intro g2 v ST HC; simp only [Rd] at HC) | ((with_reducible refine gate_dst (N := 19) rfl ?_); refine yC ST (N := some 19) (cSure (H.out.below ST.out.below) HSU.out) ?_ Tryd.func31; clear ST HC; intro v ST HC; simp only [Rd] at HC) | ((with_reducible refine gate_dst (N := 23) rfl ?_); refine yC ST (N := some 23) (cSound H HS _ ST.out.below) ?_ Tryd.func36; clear ST HC; intro v ST HC; simp only [Rd] at HC) | ((with_reducible refine gate_dst (N := 38) rfl ?_); refine yR ST (N := some 38) (cDrawn (b0 := b0) (b1 := b1) (H.out.below ST.out.below) (Kd.C_below HB.out ST.out.below) hd HD.out) ?_ Tryd.func37; clear ST HC; intro vl v ST HC; simp only [Rd] at HC))
 replace ST := Sx.less (L' := [⟨g2, #[.slice A0 h.length c0, .slice A1 s.length c1, .slice A2 p.length c2, .int .i64 b0, .int .i64 b1], 28, true⟩]) (Sx.keep ST) (List.Sublist.refl _)
 replace ST := Sx.imp (J := fun _ => True) ST (fun _ _ => trivial)
 go_loopw [12] (fun u wr => ∃ m : Nat, m ≤ S0 ∧ u = .int .i64 m ∧ Aside0 (Sx w wr [⟨g2, #[.slice A0 h.length c0, .slice A1 s.length c1, .slice A2 p.length c2, .int .i64 b0, .int .i64 b1], 28, true⟩] [] (fun _ => True))) (fun u _ => S0 + 1 - (intOf u).toNat)
 case atStart => exact ⟨0, Nat.zero_le _, rfl, ST⟩
 case round =>
  clear ST HC
  obtain ⟨m, hm, rfl, ST⟩ := hrel
  have HC := Sx.rd ST
  simp only [Rd] at HC
  have hm2 : m < 2 ^ h.length := by omega
  have hp8 : 2 ^ h.length ≤ 256 := Nat.le_trans (Nat.pow_le_pow_right (by decide) hn8) (by decide)
  have HM := zh hm2
  have hm3 : (m : Int) ≤ 256 := by omega
  have hsh : decide ((m : Int) < wrap64 (2 ^ h.length)) = true := by rw [pow_w _ hn8]; exact decide_eq_true (by omega)
  clear hm2 hp8 hS0
  go_wp2
  clear hsh
  replace ST := Sx.row ST 3 1
  have hel : (endsL h m).length = h.length := by simp [endsL]
  have HEL := zh hel
  clear hel
  go_loopw [13, 14] (fun u13 u14 wr => ∃ (i : Nat) (v : Value), i ≤ h.length ∧ u13 = v ∧ u14 = .int .i64 i ∧ Aside0 (Sx w wr [⟨g2, #[.slice A0 h.length c0, .slice A1 s.length c1, .slice A2 p.length c2, .int .i64 b0, .int .i64 b1], 28, true⟩] [⟨3, 1, v, i, nums .i64 ((endsL h m).take i)⟩] (fun _ => True))) (fun _ u14 _ => h.length - (intOf u14).toNat)
  case atStart => exact ⟨0, _, Nat.zero_le _, rfl, rfl, ST⟩
  case round =>
   clear ST HC
   obtain ⟨i, _, hi, rfl, rfl, ST⟩ := hrel
   have HC := Sx.rd ST
   simp only [Rd] at HC
   by_cases hlt : i < h.length
   ·have l1 : (i : Int) < (h.length : Int) := by omega
    have l0 : 0 ≤ (i : Int) := by omega
    obtain ⟨ad, rfl, _⟩ := H.out.key hlt
    have hbf := bit_f m i (by have := HM.out; have := Nat.pow_le_pow_right (show 0 < 2 by decide) hn8; omega) (by omega)
    have HBF := zh hbf
    clear hbf
    have hea := endsL_at (h := h) m i hlt
    cases hbit : m.testBit i with
    | true =>
     ·have HEA := zh (show (endsL h m).getD i 0 = hiH h i by rw [hea, hbit]; rfl)
      rw [hbit] at HBF
      clear hea hbit
      go_wp2_with (first | ((with_reducible refine gate_dst (N := 85) rfl ?_); refine yC ST (N := some 85) (cBit (m : Int) (i : Int) HBF.out) ?_ Tryd.func47; clear ST HC; intro v ST HC; simp only [Rd] at HC; obtain ⟨k0, k1⟩ := (H.out.below ST.out.below).heard hlt) | ((with_reducible refine gate_dst (N := 93) rfl ?_); refine yF ST (cs := #[.int .i64 (hiH h i)]) (t := 3) (F := fun g_ => .slice (some ⟨g_, 0, none⟩) 1 1) ?_; clear ST HC; intro g93 v ST HC; simp only [Rd] at HC) | ((with_reducible refine gate_dst (N := 94) rfl ?_); refine yP ST (t := 29) (lit_cells ST) ?_ Tryd.underlying29 info3 rfl (by intro u hu; simp at hu; subst hu; rfl) (by decide) (by show (i + 1) * 8 ≤ _; omega) (by decide); clear ST HC k0 k1; intro ga ca v ST HC; simp only [Rd] at HC))
      replace ST := Sx.tail (Sx.rowEq (q := ⟨3, 1, .slice (some ⟨ga, 0, none⟩) (i + 1) ca, i + 1, nums .i64 ((endsL h m).take (i + 1))⟩) ST (by dsimp only; congr 1; exact nums_snoc _ _ (by rw [HEL.out]; omega) _ HEA.out))
      go_roundw
      case rel => exact ⟨i + 1, _, by omega, rfl, by go_num, ST⟩
      case measure => simp [intOf]; omega
    | false =>
     ·have HEA := zh (show (endsL h m).getD i 0 = loH h i by rw [hea, hbit]; rfl)
      rw [hbit] at HBF
      clear hea hbit
      go_wp2_with (first | ((with_reducible refine gate_dst (N := 85) rfl ?_); refine yC ST (N := some 85) (cBit (m : Int) (i : Int) HBF.out) ?_ Tryd.func47; clear ST HC; intro v ST HC; simp only [Rd] at HC; obtain ⟨k0, k1⟩ := (H.out.below ST.out.below).heard hlt) | ((with_reducible refine gate_dst (N := 102) rfl ?_); refine yF ST (cs := #[.int .i64 (loH h i)]) (t := 3) (F := fun g_ => .slice (some ⟨g_, 0, none⟩) 1 1) ?_; clear ST HC; intro g102 v ST HC; simp only [Rd] at HC) | ((with_reducible refine gate_dst (N := 103) rfl ?_); refine yP ST (t := 29) (lit_cells ST) ?_ Tryd.underlying29 info3 rfl (by intro u hu; simp at hu; subst hu; rfl) (by decide) (by show (i + 1) * 8 ≤ _; omega) (by decide); clear ST HC k0 k1; intro ga ca v ST HC; simp only [Rd] at HC))
      replace ST := Sx.tail (Sx.rowEq (q := ⟨3, 1, .slice (some ⟨ga, 0, none⟩) (i + 1) ca, i + 1, nums .i64 ((endsL h m).take (i + 1))⟩) ST (by dsimp only; congr 1; exact nums_snoc _ _ (by rw [HEL.out]; omega) _ HEA.out))
      go_roundw
      case rel => exact ⟨i + 1, _, by omega, rfl, by go_num, ST⟩
      case measure => simp [intOf]; omega
   ·obtain rfl : i = h.length := by omega
    replace ST := Sx.rowEq (q := ⟨3, 1, u13, (endsL h m).length, nums .i64 (endsL h m)⟩) ST (by rw [HEL.out, List.take_of_length_le (by rw [HEL.out]; omega)])
    obtain ⟨A, c, hva, hc, hC⟩ := ints_own (ST.out.rows _ (List.mem_cons_self ..))
    have HL := zh hC
    clear hC
    subst hva
    have HHE : Aside0 (Heard h.length (endsL h m)) := ⟨HHE0.out m⟩
    cases hfit : (jsOf h s p b0 b1).all (fitJ (b0, b1) (endsL h m)) with
    | true =>
     have HFIT := zh hfit
     have hne : m < S0 := by rcases Nat.lt_or_ge m S0 with h9 | h9; exact h9; (have e9 : m = S0 := by omega); subst e9; rw [HS0.out] at hfit; cases hfit
     clear hfit
     go_wp2_with (first | ((with_reducible refine gate_dst (N := 106) rfl ?_); refine yC ST (N := some 106) (cTuned (H.out.below ST.out.below) HN.out HHE.out HL.out hc) ?_ Tryd.func43; rw [HFIT.out]; clear ST HC HL; intro v ST HC; simp only [Rd] at HC))
     replace ST := Sx.imp (J := fun _ => True) (Sx.keep ST) (fun _ _ => trivial)
     go_roundw
     case rel => exact ⟨m + 1, by omega, by go_num, ST⟩
     case measure => simp [intOf]; omega
    | false =>
     have HFIT := zh hfit
     have HIT := zh (HIT0.out m hfit)
     clear hfit
     go_wp2_with (first | ((with_reducible refine gate_dst (N := 106) rfl ?_); refine yC ST (N := some 106) (cTuned (H.out.below ST.out.below) HN.out HHE.out HL.out hc) ?_ Tryd.func43; rw [HFIT.out]; clear ST HC HL; intro v ST HC; simp only [Rd] at HC) | ((with_reducible refine gate_dst (N := 111) rfl ?_); obtain ⟨_, hc2, hC2⟩ := ints_own' (ST.out.rows _ (List.mem_cons_self ..)); refine yC ST (N := some 111) (cIsTuning (H.out.below ST.out.below) hC2 hc2 HIT.out) ?_ Tryd.func16; clear ST HC hC2 hc2; intro v ST HC; simp only [Rd] at HC) | ((with_reducible refine gate_dst (N := 121) rfl ?_); refine gate_guard (by rfl) ?_; refine yC ST (N := some 121) (cPlayed H _ ST.out.below) ?_ Tryd.func22; clear ST HC; intro v ST HC; simp only [Rd] at HC))
     go_ret
     exact ⟨rfl, ST.out.below⟩
end
end Go.Proofs.YtgehkojccmkggaaDoor.K
end
section
namespace Go.Proofs.YtgehkojccmkggaaDoor.K
open Go.RowKit Go.Shelf Go.Proofs.YtgehkojccmkggaaDoorW.PrintWords Go.Proofs.YtgehkojccmkggaaDoorW.PrintLast Go.Proofs.YtgehkojccmkggaaDoorW.PrintMore Go.Proofs.YtgehkojccmkggaaDoor.H Tune
set_option linter.unusedVariables false
set_option linter.unusedSimpArgs false
attribute [local go_sem] Oper.semAt_some
end Go.Proofs.YtgehkojccmkggaaDoor.K
end
section
namespace Go.Proofs.YtgehkojccmkggaaDoor.K
open Go.RowKit Go.Shelf Go.Proofs.YtgehkojccmkggaaDoorW.PrintWords Go.Proofs.YtgehkojccmkggaaDoorW.PrintLast Go.Proofs.YtgehkojccmkggaaDoorW.PrintMore Go.Proofs.YtgehkojccmkggaaDoor.H Tune
set_option linter.unusedVariables false
set_option linter.unusedSimpArgs false
attribute [local go_sem] Oper.semAt_some
theorem sure_f {h : List S26} {s : List S61} {p : List S48} {b0 b1 : Int} (hsm : small h s p = true) {r : Bool} {E : Int} (h1 : sureB h s p b0 b1 = r) (h2 : checkT h s p b0 b1 = E) : tune_Sure.f h s p b0 b1 = some (r, E) := by unfold tune_Sure.f; rw [if_pos hsm, h1, h2]
theorem isTuning_f {h : List S26} {s : List S61} {p : List S48} {b0 b1 : Int} (hsm : small h s p = true) (hc : checkT h s p b0 b1 = 0) {l : List Int} (hl : InSpans h l) {r : Bool} (hr : (jsOf h s p b0 b1).all (fitJ (b0, b1) l) = r) : tune_IsTuning.f h s p b0 b1 l = some (r, 0) := by
 unfold tune_IsTuning.f
 rw [if_pos hsm, isTB_in hc hl, hr, hc]
theorem tuneSure_true {A0 : Option Addr} {c0 : Nat} {h : List S26} {A1 : Option Addr} {c1 : Nat} {s : List S61} {A2 : Option Addr} {c2 : Nat} {p : List S48} {w : World} {b0 b1 : Int} {B : Option Addr} {d : Nat} {bits : List Int} (hB : Kd.C (Kd.int .i64) w B bits.length bits) (hd : bits.length ≤ d) (hbl : bits.length ≤ 9000000) (H : At A0 c0 h A1 c1 s A2 c2 p w) :
  Calls Tryd.prog 13 #[.agg #[.slice A0 h.length c0, .slice A1 s.length c1, .slice A2 p.length c2, .int .i64 b0, .int .i64 b1], .slice B bits.length d] w fun e w' => e = .returned (.bool true) ∧ Below w.heap.size w w' := by
 have hsm := H.sm
 by_cases hc : checkT h s p b0 b1 = 0
 ·obtain ⟨F, _⟩ := fine_of hc
  have hn : 1 ≤ h.length ∧ h.length ≤ 8 := ⟨F.some, F.few⟩
  obtain ⟨l, hl, K, hK⟩ := drawn_law (s := s) (p := p) (b0 := b0) (b1 := b1) F bits hbl
  have hD := hK K (Nat.le_refl _)
  have hb : sureB h s p b0 b1 = (jsOf h s p b0 b1).all (sureJ h (b0, b1)) := by unfold sureB; rw [decide_eq_true hc]; rfl
  cases hsu : (jsOf h s p b0 b1).all (sureJ h (b0, b1)) with
  | true =>
   have hf := sure_fit F hsu hl
   have ht := tun_of_in F hl hf
   refine sure_B ⟨H⟩ hB hd (decide_eq_true hc) ⟨sure_f hsm (hb.trans hsu) hc⟩ ⟨hD⟩ ⟨isTuning_f hsm hc hl hf⟩ ⟨?_⟩
   unfold tune_Wrong.f
   rw [if_pos hsm, wrong_none hc ht, hc]
  | false =>
   obtain ⟨S0, h1, h2⟩ := ends_bad F hsu
   exact sure_C ⟨H⟩ hB hd hn (decide_eq_true hc) ⟨sure_f hsm (hb.trans hsu) hc⟩ ⟨hD⟩ h1 ⟨h2⟩ ⟨neat_of hc⟩ ⟨fun m => heard_of F (endsL_in F m)⟩ ⟨fun m hm => isTuning_f hsm hc (endsL_in F m) hm⟩
 ·have h1 : sureB h s p b0 b1 = false := by unfold sureB; rw [decide_eq_false hc]; rfl
  exact sure_A ⟨H⟩ (decide_eq_false hc) ⟨sure_f hsm h1 (checkT_ne hc)⟩
end Go.Proofs.YtgehkojccmkggaaDoor.K
end
section
namespace Go.Proofs.YtgehkojccmkggaaDoor.tuneSure
open Go.ChangeShapes Go.WideShapes Go.ChangeAt Go.RowKit Go.Proofs.YtgehkojccmkggaaDoorW.PrintWords Go.Proofs.YtgehkojccmkggaaDoor.H Go.Proofs.YtgehkojccmkggaaDoor.K
set_option linter.unusedVariables false
theorem own : ownKnob Tryd.prog.godebug = none := by kernel_rfl
theorem laidOut : laidOutB Tryd.prog = true := by kernel_rfl
abbrev zeros : Array Value := #[.agg #[.slice none 0 0, .slice none 0 0, .slice none 0 0, .int .i64 0, .int .i64 0], .slice none 0 0]
theorem door_met (os : Os) (args : Array Value) : laidMetH Tryd.prog laid1 ((World.doorLaid Tryd.prog 600 os).forCall (fun _ _ => 0) ⟨#[], args, []⟩).memory :=
 laidMetH_of_parts3 (fuel := 8) (laidMet_of_run' 8 zk zk) zk zk
set_option maxRecDepth 100000 in
set_option maxHeartbeats 2000000 in
theorem lifted (os : Os) (started : os.Started) (H : Type) (enc : TypeId × Value → H) (F : Stop.Interp) :
  ReturnsInHanded {} Tryd.checked os 13 .any ((Rows.OpenSpec.upto Rows.tuneSureSpec).preRow enc Tryd.prog Tryd.f13 Rows.tuneSureUptoRow.domain false Rows.tuneSureUptoRow.laid) (((Rows.OpenSpec.upto Rows.tuneSureSpec).at F).post enc Tryd.prog Tryd.f13 false true false false) := by
 refine returnsInHanded_of_row (C := Tryd.checked) (s := Rows.OpenSpec.upto Rows.tuneSureSpec) own started zk Tryd.func13
  (witness_row_at (enc := enc) (C := Tryd.checked) false (World.doorLaid Tryd.prog 600 os) zeros rfl zk zk zk
   (OpenSpec.preRow_of_cond (x := ([.agg [.nil, .nil, .nil, .agg [.lit (.int .i64 0), .lit (.int .i64 0)]], .nil], [], [])) 8 zk zk (fun k hk => by cases hk; kernel_rfl) zk (door_met os _))) ?_
 intro W base args ds gs before hval0 hW _ hcond _ hL _ _
 have hval : ∀ (j : Nat) t v, Tryd.f13.params[j]? = some t → args[j]? = some v → Value.okWide Tryd.prog W .any base t v := hval0
 have hbulk : Rows.uptoBulkAll (ds ++ gs) ≤ 1048576 := of_decide_eq_true (hcond _ rfl)
 have hW' := hW
 obtain ⟨p, q, hA0, hV, rfl, hfz, hnd⟩ := hW
 have hA : DataW.TrodAll enc Tryd.prog W 0 (fun _ => true) true Tryd.f13.params.toList args.toList ds p := hA0
 rw [Tryd.params13] at hA hval
 obtain ⟨v0, vs0, d0, ds0, p0, q0, hargs, rfl, rfl, h0, r0⟩ := trodAll_cons hA
 obtain ⟨v1, vs1, d1, ds1, p1, q1, rfl, rfl, rfl, h1, r1⟩ := trodAll_cons r0
 obtain ⟨rfl, rfl, rfl⟩ := trodAll_nil r1
 obtain rfl : args = #[v0, v1] := by cases args; simp_all
 obtain ⟨rfl, rfl⟩ := trodVars_none hV
 have hb0 : Rows.uptoBulk d0 ≤ 1048576 := by
  simp only [List.append_nil, Rows.uptoBulkAll] at hbulk
  omega
 have hb1 : Rows.uptoBulk d1 ≤ 1048576 := by
  simp only [List.append_nil, Rows.uptoBulkAll] at hbulk
  omega
 have k0 := h0
 have lt0 : ∀ x ∈ p0, x.block < W.heap.size := by obtain ⟨m, hm⟩ := k0; exact DataW.trod_lt m _ _ _ hm
 obtain ⟨A0, c0, l0, A1, c1, l1, A2, c2, l2, b0, b1, rfl, hc0, hC0, hc1, hC1, hc2, hC2, hs⟩ := arg_set (hval 0 28 v0 rfl rfl) h0 hb0
 have k1 := h1
 have lt1 : ∀ x ∈ p1, x.block < W.heap.size := by obtain ⟨m, hm⟩ := k1; exact DataW.trod_lt m _ _ _ hm
 obtain ⟨B, m, d, rfl, hd, hD, hm, _⟩ := arg_ints (hval 1 29 v1 rfl rfl) h1 hb1
 clear hA0 hval0
 have hG := glob_of_laid hL
 refine (tuneSure_true hD hd (by omega) ⟨hs, hG, hC0, hc0, hC1, hc1, hC2, hc2⟩).mono fun e W' ⟨he, bel⟩ => ?_
 subst he
 exact ⟨_, rfl, _, _, _, [], _, [], hW', trodAll_mk1 (shut_bool Tryd.underlying4 _), (trodAll_cons_mk (Below.trod laidOut zk (of_decide_eq_true zk) k0 bel lt0) (trodAll_cons_mk (Below.trod laidOut zk (of_decide_eq_true zk) k1 bel lt1) trodAll_mk0)), rfl, bel.frame _, fun h => by cases h⟩
theorem over : Rows.TuneSureUptoSaid :=
 OpenClaim.holds_of_cond 13 Tryd.f13 rfl rfl rfl rfl rfl rfl rfl ⟨rfl, rfl, rfl, rfl, rfl⟩ rfl rfl rfl rfl rfl zk Tryd.func13 zk
  (of_decide_eq_true zk) (by unfold Func.isWrapper; first | (rw [if_pos (by decide +kernel)]; kernel_rfl) | (rw [if_neg (by decide +kernel)]; exact ⟨rfl, rfl⟩))
  (fun os started H enc _ F => by rw [OpenClaim.pre_eq_preRow]; exact lifted os started H enc F)
theorem proved : Rows.TuneSureUptoCardSaid :=
 Claim7.holds_tied_plain_at .later [] _ _ _ _ over (fun _ h => by cases h) zk (fun _ h => by cases h) tuneSureUpto_row_tie rfl ⟨rfl, rfl⟩ zk rfl
  (fun f fn hf hfn => by
   obtain rfl : f = 13 := Option.some.inj ((show Tryd.prog.funcNamed "saron/saronlaw01.TuneSure" = some 13 by kernel_rfl).symm.trans hf) |>.symm
   obtain rfl : fn = Tryd.f13 := (Option.some.inj (Tryd.func13.symm.trans hfn)).symm
   exact ⟨by kernel_rfl, fun j t ht => by
    rw [Tryd.params13] at ht
    have hm : t ∈ [28, 29] := by simpa using Array.mem_of_getElem? ht
    have hall : ([28, 29].all fun u => !Tryd.prog.wantsStandIn u) = true := by kernel_rfl
    exact (show Tryd.prog.wantsStandIn t = false by simpa using List.all_eq_true.1 hall t hm)⟩)
  zk
end Go.Proofs.YtgehkojccmkggaaDoor.tuneSure
namespace Go.Proofs.YtgehkojccmkggaaDoor
theorem tuneSure_card : Rows.TuneSureUptoCardSaid := tuneSure.proved
end Go.Proofs.YtgehkojccmkggaaDoor
end
