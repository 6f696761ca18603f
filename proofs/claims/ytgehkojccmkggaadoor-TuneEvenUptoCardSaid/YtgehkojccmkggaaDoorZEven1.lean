/- TuneEven, its second form: for every set, and any numbers that choose the band, of bulk at most 1,048,576, the law returns true, and each argument reads afterwards as it read before. Condition: when the call begins the package's table of asks reads as the program's text lays it; the card ties that to the text. -/
import Derived.Below
import Derived.Deep.DeepHandedRow
import Derived.JoinedCond
import Derived.LaidMore
import Derived.Lib.LaidTab
import Derived.OpenShut
import Derived.ProofKit
import Derived.SevenTiedAt
import Derived.SizedLaws
import Derived.Stop.Joined
import Derived.WalkKit
import Derived.Test.YtgehkojccmkggaaDoorCards
import Derived.Test.YtgehkojccmkggaaDoorTie
import Derived.Test.YtgehkojccmkggaaDoorZB5
import Derived.Test.YtgehkojccmkggaaDoorZB6
set_option linter.all false
section
namespace Go.Proofs.YtgehkojccmkggaaDoor.K
open Go.RowKit Go.Shelf Go.Proofs.YtgehkojccmkggaaDoorW.PrintWords Go.Proofs.YtgehkojccmkggaaDoorW.PrintLast Go.Proofs.YtgehkojccmkggaaDoorW.PrintMore Go.Proofs.YtgehkojccmkggaaDoor.H Tune
set_option linter.unusedVariables false
set_option linter.unusedSimpArgs false
attribute [local go_sem] Oper.semAt_some
attribute [local go_sem high] eqA26
attribute [local go_sem] max2_int min2_int max_two min_two
def r11.T3 : Bool × List (List Nat × List Nat) := (true, [([], []), ([0], [0]), ([1], [1]), ([2], [2]), ([2, 2], [2]), ([3, 4, 2], [2, 3, 4]), ([2, 5], [2, 5]), ([6, 4], [6]), ([7, 7], [7]), ([7, 8], [7, 8]), ([9, 8, 0, 1, 2, 3, 4, 5, 6, 7, 8, 9], [9])])
def r11.B3 : List Nat := [0, 1, 3, 7, 7, 31, 63, 127, 255, 511, 1023]
theorem r11.tab3 : rtab .any (opsOf Tryd.f11 3) = r11.T3 := by kernel_rfl
theorem r11.bits3 : waitsOk r11.T3.2 r11.B3 = true := by kernel_rfl
def r11.T6 : Bool × List (List Nat × List Nat) := (true, [([], []), ([0], [0]), ([1], [1]), ([2], [2]), ([2, 2], [2]), ([3, 4, 2], [2, 3, 4]), ([2, 5], [2, 5]), ([6, 4], [6]), ([7, 7], [7]), ([7, 8], [7, 8]), ([9, 8, 0, 1, 2, 3, 4, 5, 6, 7, 8, 9], [9])])
def r11.B6 : List Nat := [0, 1, 3, 7, 7, 31, 63, 127, 255, 511, 1023]
theorem r11.tab6 : rtab .any (opsOf Tryd.f11 6) = r11.T6 := by kernel_rfl
theorem r11.bits6 : waitsOk r11.T6.2 r11.B6 = true := by kernel_rfl
def r11.T8 : Bool × List (List Nat × List Nat) := (true, [([], []), ([0], [0]), ([1], [1]), ([2], [2]), ([2], [2]), ([3, 4, 2], [2, 3, 4]), ([2, 5], [2, 5]), ([6, 2], [6]), ([7], [7]), ([7, 7], [7]), ([8, 9, 7], [7, 8, 9]), ([7, 10], [7, 10]), ([11, 9], [11]), ([12, 12], [12]), ([12, 13], [12, 13]), ([14, 13, 0, 1, 2, 3, 4, 5, 6, 7, 8, 9, 10, 11, 12, 13, 14], [14])])
def r11.B8 : List Nat := [0, 1, 3, 7, 7, 31, 63, 127, 255, 255, 1023, 2047, 4095, 8191, 16383, 32767]
theorem r11.tab8 : rtab .any (opsOf Tryd.f11 8) = r11.T8 := by kernel_rfl
theorem r11.bits8 : waitsOk r11.T8.2 r11.B8 = true := by kernel_rfl
def r11.T16 : Bool × List (List Nat × List Nat) := (true, [([], []), ([], []), ([1], [1]), ([2], [2]), ([0, 3], [0, 3]), ([], []), ([5], [5]), ([4, 6, 4], [4, 6]), ([7, 7, 0, 1, 2, 3, 4, 5, 6, 7], [7])])
def r11.B16 : List Nat := [0, 0, 2, 6, 15, 0, 32, 127, 255]
theorem r11.tab16 : rtab .any (opsOf Tryd.f11 16) = r11.T16 := by kernel_rfl
theorem r11.bits16 : waitsOk r11.T16.2 r11.B16 = true := by kernel_rfl
section
variable {A0 : Option Addr} {c0 : Nat} {h : List S26} {A1 : Option Addr} {c1 : Nat} {s : List S61} {A2 : Option Addr} {c2 : Nat} {p : List S48} {w : World} {b0 b1 : Int} {n0 n1 : Int} (H : Aside0 (At A0 c0 h A1 c1 s A2 c2 p w))
include H
set_option maxRecDepth 100000 in
set_option maxHeartbeats 4000000 in
theorem even_A (HE : Aside0 (tune_Even.f h s p b0 b1 = some (0, 0, 10)))(HS : decide (checkT h s p b0 b1 = 0) = false) :
  Calls Tryd.prog 11 #[.agg #[.slice A0 h.length c0, .slice A1 s.length c1, .slice A2 p.length c2, .int .i64 b0, .int .i64 b1], .agg #[.int .i64 n0, .int .i64 n1]] w fun e w' => e = .returned (.bool true) ∧ Below w.heap.size w w' := by
 have ST := St.start w
 have HC : True := trivial
 go_enter Tryd.func11, Tryd.ntmps11
 go_upto_region 3 with (first | ((with_reducible refine gate_dst (N := 2) rfl ?_); refine evA ST (N := 2) (cs := #[.slice A0 h.length c0, .slice A1 s.length c1, .slice A2 p.length c2, .int .i64 b0, .int .i64 b1]) (t := 28) ?_; clear ST HC; intro g2 w ST HC; simp only [Rd] at HC) | ((with_reducible refine gate_dst (N := 3) rfl ?_); refine evA ST (N := 3) (cs := #[.int .i64 n0, .int .i64 n1]) (t := 48) ?_; clear ST HC; intro g3 w ST HC; simp only [Rd] at HC) | ((with_reducible refine gate_dst (N := 18) rfl ?_); refine evC ST (N := some 18) (cEven H HE) ?_ Tryd.func29; clear ST HC; intro w ST HC; simp only [Rd] at HC) | ((with_reducible refine gate_dst (N := 5) rfl ?_); refine evA ST (N := 5) (cs := #[.int .i64 0, .int .i64 0]) (t := 26) ?_; clear ST HC; intro g5 w ST HC; simp only [Rd] at HC) | ((with_reducible refine gate_store (p := 5) (v := (.tmp 19)) rfl ?_); refine evS (L' := [⟨g5, #[.int .i64 0, .int .i64 0], 26, true⟩, ⟨g3, #[.int .i64 n0, .int .i64 n1], 48, true⟩, ⟨g2, #[.slice A0 h.length c0, .slice A1 s.length c1, .slice A2 p.length c2, .int .i64 b0, .int .i64 b1], 28, true⟩]) ST (fun S => St.put (St.put S 0 (0) (.int .i64 0) rfl) 0 (1) (.int .i64 0) rfl) ?_; clear ST HC; intro w ST HC; simp only [Rd] at HC) | ((with_reducible refine gate_dst (N := 22) rfl ?_); refine evC ST (N := some 22) (cSound H HS) ?_ Tryd.func36; clear ST HC; intro w ST HC; simp only [Rd] at HC))
 refine zI (E := fun _ => True) (n := 11) (ds := []) ST (fun _ _ => trivial) r11.tab3 r11.bits3 ?_
 clear ST HC
 intro w ST HC HT_ HW_ HE_
 simp only [Rd] at HC
 refine zu 0 ?_
 refine zu 1 ?_
 refine zu 2 ?_
 refine zL 3 ST ?_
 refine zG 4 ST (cBand 0 0) ?_ Tryd.func42
 clear ST HC
 intro w ST HC
 simp only [Rd] at HC
 refine zu 5 ?_
 refine zu 6 ?_
 refine zu 7 ?_
 refine zG 8 ST (cPlayed H) ?_ Tryd.func22
 clear ST HC
 intro w ST HC
 simp only [Rd] at HC
 refine zu 9 ?_
 refine zu 10 ?_
 refine zd ?_
 clear HT_ HW_ HE_
 go_wp2_with (fail)
 go_ret
 exact ⟨rfl, ST.out.below⟩
set_option maxRecDepth 100000 in
set_option maxHeartbeats 4000000 in
theorem even_B (HE : Aside0 (tune_Even.f h s p b0 b1 = some (0, 0, 4)))(HS : decide (checkT h s p b0 b1 = 0) = true){et : Int} {r : List Int} (HT : Aside0 (tune_Tuning.f h s p b0 b1 = some (r, et)))(hp : ((p.length : Int) == 0) = true) :
  Calls Tryd.prog 11 #[.agg #[.slice A0 h.length c0, .slice A1 s.length c1, .slice A2 p.length c2, .int .i64 b0, .int .i64 b1], .agg #[.int .i64 n0, .int .i64 n1]] w fun e w' => e = .returned (.bool true) ∧ Below w.heap.size w w' := by
 have ST := St.start w
 have HC : True := trivial
 go_enter Tryd.func11, Tryd.ntmps11
 go_upto_region 6 with (first | ((with_reducible refine gate_dst (N := 2) rfl ?_); refine evA ST (N := 2) (cs := #[.slice A0 h.length c0, .slice A1 s.length c1, .slice A2 p.length c2, .int .i64 b0, .int .i64 b1]) (t := 28) ?_; clear ST HC; intro g2 w ST HC; simp only [Rd] at HC) | ((with_reducible refine gate_dst (N := 3) rfl ?_); refine evA ST (N := 3) (cs := #[.int .i64 n0, .int .i64 n1]) (t := 48) ?_; clear ST HC; intro g3 w ST HC; simp only [Rd] at HC) | ((with_reducible refine gate_dst (N := 18) rfl ?_); refine evC ST (N := some 18) (cEven H HE) ?_ Tryd.func29; clear ST HC; intro w ST HC; simp only [Rd] at HC) | ((with_reducible refine gate_dst (N := 5) rfl ?_); refine evA ST (N := 5) (cs := #[.int .i64 0, .int .i64 0]) (t := 26) ?_; clear ST HC; intro g5 w ST HC; simp only [Rd] at HC) | ((with_reducible refine gate_store (p := 5) (v := (.tmp 19)) rfl ?_); refine evS (L' := [⟨g5, #[.int .i64 0, .int .i64 0], 26, true⟩, ⟨g3, #[.int .i64 n0, .int .i64 n1], 48, true⟩, ⟨g2, #[.slice A0 h.length c0, .slice A1 s.length c1, .slice A2 p.length c2, .int .i64 b0, .int .i64 b1], 28, true⟩]) ST (fun S => St.put (St.put S 0 (0) (.int .i64 0) rfl) 0 (1) (.int .i64 0) rfl) ?_; clear ST HC; intro w ST HC; simp only [Rd] at HC) | ((with_reducible refine gate_dst (N := 22) rfl ?_); refine evC ST (N := some 22) (cSound H HS) ?_ Tryd.func36; clear ST HC; intro w ST HC; simp only [Rd] at HC) | ((with_reducible refine gate_dst (N := 36) rfl ?_); refine evX ST (N := some 36) (F := fun v => .tuple #[v, .int .i64 et]) (cTuning H HT) ?_ Tryd.func20; clear ST HC; intro _ w _ ST HC; simp only [Rd] at HC))
 refine zI (E := fun _ => True) (n := 11) (ds := []) ST (fun _ _ => trivial) r11.tab6 r11.bits6 ?_
 clear ST HC
 intro w ST HC HT_ HW_ HE_
 simp only [Rd] at HC
 refine zu 0 ?_
 refine zu 1 ?_
 refine zu 2 ?_
 refine zL 3 ST ?_
 refine zG 4 ST (cBand 0 0) ?_ Tryd.func42
 clear ST HC
 intro w ST HC
 simp only [Rd] at HC
 refine zu 5 ?_
 refine zu 6 ?_
 refine zu 7 ?_
 refine zG 8 ST (cPlayed H) ?_ Tryd.func22
 clear ST HC
 intro w ST HC
 simp only [Rd] at HC
 refine zu 9 ?_
 refine zu 10 ?_
 refine zd ?_
 clear HT_ HW_ HE_
 go_wp2_with (fail)
 go_ret
 exact ⟨rfl, ST.out.below⟩
set_option maxRecDepth 100000 in
set_option maxHeartbeats 4000000 in
theorem even_C (HE : Aside0 (tune_Even.f h s p b0 b1 = some (0, 0, 12)))(HS : decide (checkT h s p b0 b1 = 0) = true){r : List Int} (HT : Aside0 (tune_Tuning.f h s p b0 b1 = some (r, 12)))(hp : ((p.length : Int) == 0) = false) :
  Calls Tryd.prog 11 #[.agg #[.slice A0 h.length c0, .slice A1 s.length c1, .slice A2 p.length c2, .int .i64 b0, .int .i64 b1], .agg #[.int .i64 n0, .int .i64 n1]] w fun e w' => e = .returned (.bool true) ∧ Below w.heap.size w w' := by
 have ST := St.start w
 have HC : True := trivial
 go_enter Tryd.func11, Tryd.ntmps11
 go_upto_region 8 with (first | ((with_reducible refine gate_dst (N := 2) rfl ?_); refine evA ST (N := 2) (cs := #[.slice A0 h.length c0, .slice A1 s.length c1, .slice A2 p.length c2, .int .i64 b0, .int .i64 b1]) (t := 28) ?_; clear ST HC; intro g2 w ST HC; simp only [Rd] at HC) | ((with_reducible refine gate_dst (N := 3) rfl ?_); refine evA ST (N := 3) (cs := #[.int .i64 n0, .int .i64 n1]) (t := 48) ?_; clear ST HC; intro g3 w ST HC; simp only [Rd] at HC) | ((with_reducible refine gate_dst (N := 18) rfl ?_); refine evC ST (N := some 18) (cEven H HE) ?_ Tryd.func29; clear ST HC; intro w ST HC; simp only [Rd] at HC) | ((with_reducible refine gate_dst (N := 5) rfl ?_); refine evA ST (N := 5) (cs := #[.int .i64 0, .int .i64 0]) (t := 26) ?_; clear ST HC; intro g5 w ST HC; simp only [Rd] at HC) | ((with_reducible refine gate_store (p := 5) (v := (.tmp 19)) rfl ?_); refine evS (L' := [⟨g5, #[.int .i64 0, .int .i64 0], 26, true⟩, ⟨g3, #[.int .i64 n0, .int .i64 n1], 48, true⟩, ⟨g2, #[.slice A0 h.length c0, .slice A1 s.length c1, .slice A2 p.length c2, .int .i64 b0, .int .i64 b1], 28, true⟩]) ST (fun S => St.put (St.put S 0 (0) (.int .i64 0) rfl) 0 (1) (.int .i64 0) rfl) ?_; clear ST HC; intro w ST HC; simp only [Rd] at HC) | ((with_reducible refine gate_dst (N := 22) rfl ?_); refine evC ST (N := some 22) (cSound H HS) ?_ Tryd.func36; clear ST HC; intro w ST HC; simp only [Rd] at HC) | ((with_reducible refine gate_dst (N := 36) rfl ?_); refine evX ST (N := some 36) (F := fun v => .tuple #[v, .int .i64 12]) (cTuning H HT) ?_ Tryd.func20; clear ST HC; intro _ w _ ST HC; simp only [Rd] at HC))
 refine zI (E := fun _ => True) (n := 16) (ds := []) ST (fun _ _ => trivial) r11.tab8 r11.bits8 ?_
 clear ST HC
 intro w ST HC HT_ HW_ HE_
 simp only [Rd] at HC
 refine zu 0 ?_
 refine zu 1 ?_
 refine zu 2 ?_
 refine zu 3 ?_
 refine zu 4 ?_
 refine zu 5 ?_
 refine zu 6 ?_
 refine zu 7 ?_
 refine zL 8 ST ?_
 refine zG 9 ST (cBand 0 0) ?_ Tryd.func42
 clear ST HC
 intro w ST HC
 simp only [Rd] at HC
 refine zu 10 ?_
 refine zu 11 ?_
 refine zu 12 ?_
 refine zG 13 ST (cPlayed H) ?_ Tryd.func22
 clear ST HC
 intro w ST HC
 simp only [Rd] at HC
 refine zu 14 ?_
 refine zu 15 ?_
 refine zd ?_
 clear HT_ HW_ HE_
 go_wp2_with (fail)
 go_ret
 exact ⟨rfl, ST.out.below⟩
set_option maxRecDepth 100000 in
set_option maxHeartbeats 4000000 in
theorem even_D {lo hi x y : Int} (HE : Aside0 (tune_Even.f h s p b0 b1 = some (lo, hi, 0)))(HS : decide (checkT h s p b0 b1 = 0) = true){r : List Int} (HT : Aside0 (tune_Tuning.f h s p b0 b1 = some (r, 0)))(hp : ((p.length : Int) == 0) = false){r2 : List Int} (HU : Aside0 (tune_Tuning.f h s p lo hi = some (r2, 0))) (HF : Aside0 (tune_Even.f h s p lo hi = some (lo, hi, 0))) (hg : okSpan ⟨lo, hi⟩ b0 b1 = true) (HD0 : Aside0 (saronref00_Draw.f b0 b1 n0 = some x)) (HD1 : Aside0 (saronref00_Draw.f x b1 n1 = some y)) (hb : 0 ≤ lo ∧ lo ≤ 60 ∧ 0 ≤ hi ∧ hi ≤ 60 ∧ 0 ≤ x ∧ x ≤ 60 ∧ 0 ≤ y ∧ y ≤ 60)(hq : decide (hi - lo < y - x) = true ∨ (decide (hi - lo < y - x) = false ∧ (y - x == hi - lo) = true ∧ decide (lo ≤ x) = true)) :
  Calls Tryd.prog 11 #[.agg #[.slice A0 h.length c0, .slice A1 s.length c1, .slice A2 p.length c2, .int .i64 b0, .int .i64 b1], .agg #[.int .i64 n0, .int .i64 n1]] w fun e w' => e = .returned (.bool true) ∧ Below w.heap.size w w' := by
 obtain ⟨z0, z1, z2, z3, z4, z5, z6, z7⟩ := hb
 have ST := St.start w
 have HC : True := trivial
 go_enter Tryd.func11, Tryd.ntmps11
 go_upto_region 16 with (first | ((with_reducible refine gate_dst (N := 2) rfl ?_); refine evA ST (N := 2) (cs := #[.slice A0 h.length c0, .slice A1 s.length c1, .slice A2 p.length c2, .int .i64 b0, .int .i64 b1]) (t := 28) ?_; clear ST HC; intro g2 w ST HC; simp only [Rd] at HC) | ((with_reducible refine gate_dst (N := 3) rfl ?_); refine evA ST (N := 3) (cs := #[.int .i64 n0, .int .i64 n1]) (t := 48) ?_; clear ST HC; intro g3 w ST HC; simp only [Rd] at HC) | ((with_reducible refine gate_dst (N := 18) rfl ?_); refine evC ST (N := some 18) (cEven H HE) ?_ Tryd.func29; clear ST HC; intro w ST HC; simp only [Rd] at HC) | ((with_reducible refine gate_dst (N := 5) rfl ?_); refine evA ST (N := 5) (cs := #[.int .i64 0, .int .i64 0]) (t := 26) ?_; clear ST HC; intro g5 w ST HC; simp only [Rd] at HC) | ((with_reducible refine gate_store (p := 5) (v := (.tmp 19)) rfl ?_); refine evS (L' := [⟨g5, #[.int .i64 lo, .int .i64 hi], 26, true⟩, ⟨g3, #[.int .i64 n0, .int .i64 n1], 48, true⟩, ⟨g2, #[.slice A0 h.length c0, .slice A1 s.length c1, .slice A2 p.length c2, .int .i64 b0, .int .i64 b1], 28, true⟩]) ST (fun S => St.put (St.put S 0 (0) (.int .i64 lo) rfl) 0 (1) (.int .i64 hi) rfl) ?_; clear ST HC; intro w ST HC; simp only [Rd] at HC) | ((with_reducible refine gate_dst (N := 22) rfl ?_); refine evC ST (N := some 22) (cSound H HS) ?_ Tryd.func36; clear ST HC; intro w ST HC; simp only [Rd] at HC) | ((with_reducible refine gate_dst (N := 36) rfl ?_); refine evX ST (N := some 36) (F := fun v => .tuple #[v, .int .i64 0]) (cTuning H HT) ?_ Tryd.func20; clear ST HC; intro _ w _ ST HC; simp only [Rd] at HC) | ((with_reducible refine gate_dst (N := 9) rfl ?_); refine evA ST (N := 9) (cs := #[.slice none 0 0, .slice none 0 0, .slice none 0 0, .int .i64 0, .int .i64 0]) (t := 28) ?_; clear ST HC; intro g9 w ST HC; simp only [Rd] at HC) | ((with_reducible refine gate_store (p := 9) (v := (.tmp 70)) rfl ?_); refine evS (L' := [⟨g9, #[.slice A0 h.length c0, .slice A1 s.length c1, .slice A2 p.length c2, .int .i64 b0, .int .i64 b1], 28, true⟩, ⟨g5, #[.int .i64 lo, .int .i64 hi], 26, true⟩, ⟨g3, #[.int .i64 n0, .int .i64 n1], 48, true⟩, ⟨g2, #[.slice A0 h.length c0, .slice A1 s.length c1, .slice A2 p.length c2, .int .i64 b0, .int .i64 b1], 28, true⟩]) ST (fun S => St.put (St.put (St.put (St.put (St.put S 0 (0) (.slice A0 h.length c0) rfl) 0 (1) (.slice A1 s.length c1) rfl) 0 (2) (.slice A2 p.length c2) rfl) 0 (3) (.int .i64 b0) rfl) 0 (4) (.int .i64 b1) rfl) ?_; clear ST HC; intro w ST HC; simp only [Rd] at HC) | ((with_reducible refine gate_store (p := 72) (v := (.tmp 71)) rfl ?_); refine evS (L' := [⟨g9, #[.slice A0 h.length c0, .slice A1 s.length c1, .slice A2 p.length c2, .int .i64 lo, .int .i64 hi], 28, true⟩, ⟨g5, #[.int .i64 lo, .int .i64 hi], 26, true⟩, ⟨g3, #[.int .i64 n0, .int .i64 n1], 48, true⟩, ⟨g2, #[.slice A0 h.length c0, .slice A1 s.length c1, .slice A2 p.length c2, .int .i64 b0, .int .i64 b1], 28, true⟩]) ST (fun S => St.put (St.put S 0 (3) (.int .i64 lo) rfl) 0 (4) (.int .i64 hi) rfl) ?_; clear ST HC; intro w ST HC; simp only [Rd] at HC) | ((with_reducible refine gate_dst (N := 75) rfl ?_); refine evX ST (N := some 75) (F := fun v => .tuple #[v, .int .i64 0]) (cTuning H HU) ?_ Tryd.func20; clear ST HC; intro _ w _ ST HC; simp only [Rd] at HC) | ((with_reducible refine gate_dst (N := 80) rfl ?_); refine evC ST (N := some 80) (cEven H HF) ?_ Tryd.func29; clear ST HC; intro w ST HC; simp only [Rd] at HC) | ((with_reducible refine gate_dst (N := 12) rfl ?_); refine evA ST (N := 12) (cs := #[.int .i64 0, .int .i64 0]) (t := 26) ?_; clear ST HC; intro g12 w ST HC; simp only [Rd] at HC) | ((with_reducible refine gate_store (p := 12) (v := (.tmp 81)) rfl ?_); refine evS (L' := [⟨g12, #[.int .i64 lo, .int .i64 hi], 26, true⟩, ⟨g9, #[.slice A0 h.length c0, .slice A1 s.length c1, .slice A2 p.length c2, .int .i64 lo, .int .i64 hi], 28, true⟩, ⟨g5, #[.int .i64 lo, .int .i64 hi], 26, true⟩, ⟨g3, #[.int .i64 n0, .int .i64 n1], 48, true⟩, ⟨g2, #[.slice A0 h.length c0, .slice A1 s.length c1, .slice A2 p.length c2, .int .i64 b0, .int .i64 b1], 28, true⟩]) ST (fun S => St.put (St.put S 0 (0) (.int .i64 lo) rfl) 0 (1) (.int .i64 hi) rfl) ?_; clear ST HC; intro w ST HC; simp only [Rd] at HC) | ((with_reducible refine gate_dst (N := 106) rfl ?_); refine gate_guard (by rfl) ?_; refine evC ST (N := some 106) (cGood lo hi b0 b1 hg) ?_ Tryd.func46; clear ST HC; intro w ST HC; simp only [Rd] at HC) | ((with_reducible refine gate_dst (N := 113) rfl ?_); refine evC ST (N := some 113) (cDraw b0 b1 n0 HD0) ?_ Tryd.func45; clear ST HC; intro w ST HC; simp only [Rd] at HC))
 refine zI (E := fun _ => True) (n := 9) (ds := []) ST (fun _ _ => trivial) r11.tab16 r11.bits16 ?_
 clear ST HC
 intro w ST HC HT_ HW_ HE_
 simp only [Rd] at HC
 refine zu 0 ?_
 refine zu 1 ?_
 refine zu 2 ?_
 refine zu 5 ?_
 refine zL 3 ST ?_
 refine zL 6 ST ?_
 refine zG 4 ST (cBand x b1) ?_ Tryd.func42
 clear ST HC
 intro w ST HC
 simp only [Rd] at HC
 refine zG 7 ST (cDraw x b1 n1 HD1) ?_ Tryd.func45
 clear ST HC
 intro w ST HC
 simp only [Rd] at HC
 refine zu 8 ?_
 refine zd ?_
 clear HT_ HW_ HE_
 rcases hq with q1 | ⟨q1, q2, q3⟩
 all_goals
  go_wp2_with (first | ((with_reducible refine gate_dst (N := 148) rfl ?_); refine evC ST (N := some 148) (cPlayed H) ?_ Tryd.func22; clear ST HC; intro w ST HC; simp only [Rd] at HC))
  go_ret
  exact ⟨rfl, ST.out.below⟩
set_option maxRecDepth 100000 in
set_option maxHeartbeats 4000000 in
theorem even_E {lo hi x y : Int} (HE : Aside0 (tune_Even.f h s p b0 b1 = some (lo, hi, 0)))(HS : decide (checkT h s p b0 b1 = 0) = true){r : List Int} (HT : Aside0 (tune_Tuning.f h s p b0 b1 = some (r, 0)))(hp : ((p.length : Int) == 0) = false){r2 : List Int} (HU : Aside0 (tune_Tuning.f h s p lo hi = some (r2, 0))) (HF : Aside0 (tune_Even.f h s p lo hi = some (lo, hi, 0))) (hg : okSpan ⟨lo, hi⟩ b0 b1 = true) (HD0 : Aside0 (saronref00_Draw.f b0 b1 n0 = some x)) (HD1 : Aside0 (saronref00_Draw.f x b1 n1 = some y)) (hb : 0 ≤ lo ∧ lo ≤ 60 ∧ 0 ≤ hi ∧ hi ≤ 60 ∧ 0 ≤ x ∧ x ≤ 60 ∧ 0 ≤ y ∧ y ≤ 60){r3 : List Int} (HV : Aside0 (tune_Tuning.f h s p x y = some (r3, 12))) (hq : (decide (hi - lo < y - x) = false ∧ (y - x == hi - lo) = false) ∨ (decide (hi - lo < y - x) = false ∧ (y - x == hi - lo) = true ∧ decide (lo ≤ x) = false)) :
  Calls Tryd.prog 11 #[.agg #[.slice A0 h.length c0, .slice A1 s.length c1, .slice A2 p.length c2, .int .i64 b0, .int .i64 b1], .agg #[.int .i64 n0, .int .i64 n1]] w fun e w' => e = .returned (.bool true) ∧ Below w.heap.size w w' := by
 obtain ⟨z0, z1, z2, z3, z4, z5, z6, z7⟩ := hb
 have ST := St.start w
 have HC : True := trivial
 go_enter Tryd.func11, Tryd.ntmps11
 go_upto_region 16 with (first | ((with_reducible refine gate_dst (N := 2) rfl ?_); refine evA ST (N := 2) (cs := #[.slice A0 h.length c0, .slice A1 s.length c1, .slice A2 p.length c2, .int .i64 b0, .int .i64 b1]) (t := 28) ?_; clear ST HC; intro g2 w ST HC; simp only [Rd] at HC) | ((with_reducible refine gate_dst (N := 3) rfl ?_); refine evA ST (N := 3) (cs := #[.int .i64 n0, .int .i64 n1]) (t := 48) ?_; clear ST HC; intro g3 w ST HC; simp only [Rd] at HC) | ((with_reducible refine gate_dst (N := 18) rfl ?_); refine evC ST (N := some 18) (cEven H HE) ?_ Tryd.func29; clear ST HC; intro w ST HC; simp only [Rd] at HC) | ((with_reducible refine gate_dst (N := 5) rfl ?_); refine evA ST (N := 5) (cs := #[.int .i64 0, .int .i64 0]) (t := 26) ?_; clear ST HC; intro g5 w ST HC; simp only [Rd] at HC) | ((with_reducible refine gate_store (p := 5) (v := (.tmp 19)) rfl ?_); refine evS (L' := [⟨g5, #[.int .i64 lo, .int .i64 hi], 26, true⟩, ⟨g3, #[.int .i64 n0, .int .i64 n1], 48, true⟩, ⟨g2, #[.slice A0 h.length c0, .slice A1 s.length c1, .slice A2 p.length c2, .int .i64 b0, .int .i64 b1], 28, true⟩]) ST (fun S => St.put (St.put S 0 (0) (.int .i64 lo) rfl) 0 (1) (.int .i64 hi) rfl) ?_; clear ST HC; intro w ST HC; simp only [Rd] at HC) | ((with_reducible refine gate_dst (N := 22) rfl ?_); refine evC ST (N := some 22) (cSound H HS) ?_ Tryd.func36; clear ST HC; intro w ST HC; simp only [Rd] at HC) | ((with_reducible refine gate_dst (N := 36) rfl ?_); refine evX ST (N := some 36) (F := fun v => .tuple #[v, .int .i64 0]) (cTuning H HT) ?_ Tryd.func20; clear ST HC; intro _ w _ ST HC; simp only [Rd] at HC) | ((with_reducible refine gate_dst (N := 9) rfl ?_); refine evA ST (N := 9) (cs := #[.slice none 0 0, .slice none 0 0, .slice none 0 0, .int .i64 0, .int .i64 0]) (t := 28) ?_; clear ST HC; intro g9 w ST HC; simp only [Rd] at HC) | ((with_reducible refine gate_store (p := 9) (v := (.tmp 70)) rfl ?_); refine evS (L' := [⟨g9, #[.slice A0 h.length c0, .slice A1 s.length c1, .slice A2 p.length c2, .int .i64 b0, .int .i64 b1], 28, true⟩, ⟨g5, #[.int .i64 lo, .int .i64 hi], 26, true⟩, ⟨g3, #[.int .i64 n0, .int .i64 n1], 48, true⟩, ⟨g2, #[.slice A0 h.length c0, .slice A1 s.length c1, .slice A2 p.length c2, .int .i64 b0, .int .i64 b1], 28, true⟩]) ST (fun S => St.put (St.put (St.put (St.put (St.put S 0 (0) (.slice A0 h.length c0) rfl) 0 (1) (.slice A1 s.length c1) rfl) 0 (2) (.slice A2 p.length c2) rfl) 0 (3) (.int .i64 b0) rfl) 0 (4) (.int .i64 b1) rfl) ?_; clear ST HC; intro w ST HC; simp only [Rd] at HC) | ((with_reducible refine gate_store (p := 72) (v := (.tmp 71)) rfl ?_); refine evS (L' := [⟨g9, #[.slice A0 h.length c0, .slice A1 s.length c1, .slice A2 p.length c2, .int .i64 lo, .int .i64 hi], 28, true⟩, ⟨g5, #[.int .i64 lo, .int .i64 hi], 26, true⟩, ⟨g3, #[.int .i64 n0, .int .i64 n1], 48, true⟩, ⟨g2, #[.slice A0 h.length c0, .slice A1 s.length c1, .slice A2 p.length c2, .int .i64 b0, .int .i64 b1], 28, true⟩]) ST (fun S => St.put (St.put S 0 (3) (.int .i64 lo) rfl) 0 (4) (.int .i64 hi) rfl) ?_; clear ST HC; intro w ST HC; simp only [Rd] at HC) | ((with_reducible refine gate_dst (N := 75) rfl ?_); refine evX ST (N := some 75) (F := fun v => .tuple #[v, .int .i64 0]) (cTuning H HU) ?_ Tryd.func20; clear ST HC; intro _ w _ ST HC; simp only [Rd] at HC) | ((with_reducible refine gate_dst (N := 80) rfl ?_); refine evC ST (N := some 80) (cEven H HF) ?_ Tryd.func29; clear ST HC; intro w ST HC; simp only [Rd] at HC) | ((with_reducible refine gate_dst (N := 12) rfl ?_); refine evA ST (N := 12) (cs := #[.int .i64 0, .int .i64 0]) (t := 26) ?_; clear ST HC; intro g12 w ST HC; simp only [Rd] at HC) | ((with_reducible refine gate_store (p := 12) (v := (.tmp 81)) rfl ?_); refine evS (L' := [⟨g12, #[.int .i64 lo, .int .i64 hi], 26, true⟩, ⟨g9, #[.slice A0 h.length c0, .slice A1 s.length c1, .slice A2 p.length c2, .int .i64 lo, .int .i64 hi], 28, true⟩, ⟨g5, #[.int .i64 lo, .int .i64 hi], 26, true⟩, ⟨g3, #[.int .i64 n0, .int .i64 n1], 48, true⟩, ⟨g2, #[.slice A0 h.length c0, .slice A1 s.length c1, .slice A2 p.length c2, .int .i64 b0, .int .i64 b1], 28, true⟩]) ST (fun S => St.put (St.put S 0 (0) (.int .i64 lo) rfl) 0 (1) (.int .i64 hi) rfl) ?_; clear ST HC; intro w ST HC; simp only [Rd] at HC) | ((with_reducible refine gate_dst (N := 106) rfl ?_); refine gate_guard (by rfl) ?_; refine evC ST (N := some 106) (cGood lo hi b0 b1 hg) ?_ Tryd.func46; clear ST HC; intro w ST HC; simp only [Rd] at HC) | ((with_reducible refine gate_dst (N := 113) rfl ?_); refine evC ST (N := some 113) (cDraw b0 b1 n0 HD0) ?_ Tryd.func45; clear ST HC; intro w ST HC; simp only [Rd] at HC))
 refine zI (E := fun _ => True) (n := 9) (ds := []) ST (fun _ _ => trivial) r11.tab16 r11.bits16 ?_
 clear ST HC
 intro w ST HC HT_ HW_ HE_
 simp only [Rd] at HC
 refine zu 0 ?_
 refine zu 1 ?_
 refine zu 2 ?_
 refine zu 5 ?_
 refine zL 3 ST ?_
 refine zL 6 ST ?_
 refine zG 4 ST (cBand x b1) ?_ Tryd.func42
 clear ST HC
 intro w ST HC
 simp only [Rd] at HC
 refine zG 7 ST (cDraw x b1 n1 HD1) ?_ Tryd.func45
 clear ST HC
 intro w ST HC
 simp only [Rd] at HC
 refine zu 8 ?_
 refine zd ?_
 clear HT_ HW_ HE_
 rcases hq with ⟨q1, q2⟩ | ⟨q1, q2, q3⟩
 all_goals
  go_wp2_with (first | ((with_reducible refine gate_dst (N := 151) rfl ?_); refine evC ST (N := some 151) (cBand x y) ?_ Tryd.func42; clear ST HC; intro w ST HC; simp only [Rd] at HC) | ((with_reducible refine gate_store (p := 152) (v := (.tmp 151)) rfl ?_); refine evS (L' := [⟨g12, #[.int .i64 lo, .int .i64 hi], 26, true⟩, ⟨g9, #[.slice A0 h.length c0, .slice A1 s.length c1, .slice A2 p.length c2, .int .i64 x, .int .i64 y], 28, true⟩, ⟨g5, #[.int .i64 lo, .int .i64 hi], 26, true⟩, ⟨g3, #[.int .i64 n0, .int .i64 n1], 48, true⟩, ⟨g2, #[.slice A0 h.length c0, .slice A1 s.length c1, .slice A2 p.length c2, .int .i64 b0, .int .i64 b1], 28, true⟩]) ST (fun S => St.put (St.put S 1 (3) (.int .i64 x) rfl) 1 (4) (.int .i64 y) rfl) ?_; clear ST HC; intro w ST HC; simp only [Rd] at HC) | ((with_reducible refine gate_dst (N := 155) rfl ?_); refine evX ST (N := some 155) (F := fun v => .tuple #[v, .int .i64 12]) (cTuning H HV) ?_ Tryd.func20; clear ST HC; intro _ w _ ST HC; simp only [Rd] at HC) | ((with_reducible refine gate_dst (N := 161) rfl ?_); refine gate_guard (by rfl) ?_; refine evC ST (N := some 161) (cPlayed H) ?_ Tryd.func22; clear ST HC; intro w ST HC; simp only [Rd] at HC))
  go_ret
  exact ⟨rfl, ST.out.below⟩
end
end Go.Proofs.YtgehkojccmkggaaDoor.K
end
section
namespace Go.Proofs.YtgehkojccmkggaaDoor.K
open Go.RowKit Go.Shelf Go.Proofs.YtgehkojccmkggaaDoorW.PrintWords Go.Proofs.YtgehkojccmkggaaDoorW.PrintLast Go.Proofs.YtgehkojccmkggaaDoorW.PrintMore Go.Proofs.YtgehkojccmkggaaDoor.H Tune
set_option linter.unusedVariables false
set_option linter.unusedSimpArgs false
attribute [local go_sem] Oper.semAt_some
theorem tuning_f {h : List S26} {s : List S61} {p : List S48} {b0 b1 : Int} (hsm : small h s p = true) {E : Int} (hE : askedE h s p b0 b1 true = E) : ∃ r, tune_Tuning.f h s p b0 b1 = some (r, E) := ⟨_, by unfold tune_Tuning.f; rw [if_pos hsm, hE]⟩
theorem even_f {h : List S26} {s : List S61} {p : List S48} {b0 b1 : Int} (hsm : small h s p = true) {E : Int} {B : Int × Int} (hE : evenE h s p b0 b1 = E) (hB : evenT h s p b0 b1 = B) : tune_Even.f h s p b0 b1 = some (B.1, B.2, E) := by unfold tune_Even.f; rw [if_pos hsm, hE, hB]
theorem asked_iff {h : List S26} {s : List S61} {p : List S48} {b0 b1 : Int} (hc : checkT h s p b0 b1 = 0) : askedE h s p b0 b1 true = if tunS h (jsOf h s p b0 b1) noLeft (b0, b1) [] = true then 0 else 12 := by
 unfold askedE
 rw [if_neg (fun e => e hc), if_neg (by decide)]
theorem span_ok {a b lo hi : Int} (h1 : lo ≤ a) (h2 : a ≤ b) (h3 : b ≤ hi) : okSpan ⟨a, b⟩ lo hi = true := by unfold okSpan; rw [decide_eq_true h1, decide_eq_true h2, decide_eq_true h3]; rfl
theorem tuneEven_true {A0 : Option Addr} {c0 : Nat} {h : List S26} {A1 : Option Addr} {c1 : Nat} {s : List S61} {A2 : Option Addr} {c2 : Nat} {p : List S48} {w : World} {b0 b1 : Int} (n0 n1 : Int) (H : At A0 c0 h A1 c1 s A2 c2 p w) :
  Calls Tryd.prog 11 #[.agg #[.slice A0 h.length c0, .slice A1 s.length c1, .slice A2 p.length c2, .int .i64 b0, .int .i64 b1], .agg #[.int .i64 n0, .int .i64 n1]] w fun e w' => e = .returned (.bool true) ∧ Below w.heap.size w w' := by
 have hsm := H.sm
 by_cases hc : checkT h s p b0 b1 = 0
 ·by_cases hp : p.length = 0
  ·have hE : evenE h s p b0 b1 = 4 := by unfold evenE; rw [if_neg (fun e => e hc), if_pos hp]
   have hB : evenT h s p b0 b1 = (0, 0) := by unfold evenT; rw [if_neg (by rw [hE]; decide)]
   obtain ⟨r, hr⟩ := tuning_f (b0 := b0) (b1 := b1) hsm rfl
   exact even_B ⟨H⟩ ⟨even_f hsm hE hB⟩ (decide_eq_true hc) ⟨hr⟩ (beq_iff_eq.2 (by omega))
  ·have hp0 : ((p.length : Int) == 0) = false := beq_eq_false_iff_ne.2 (fun e => hp (by omega))
   have hE : evenE h s p b0 b1 = askedE h s p b0 b1 true := by unfold evenE; rw [if_neg (fun e => e hc), if_neg hp]
   have hA := asked_iff hc
   cases ht : tunS h (jsOf h s p b0 b1) noLeft (b0, b1) [] with
   | false =>
    rw [ht, if_neg (by decide)] at hA
    rw [hA] at hE
    have hB : evenT h s p b0 b1 = (0, 0) := by unfold evenT; rw [if_neg (by rw [hE]; decide)]
    obtain ⟨r, hr⟩ := tuning_f (b0 := b0) (b1 := b1) hsm hA
    exact even_C ⟨H⟩ ⟨even_f hsm hE hB⟩ (decide_eq_true hc) ⟨hr⟩ hp0
   | true =>
    rw [ht, if_pos rfl] at hA
    rw [hA] at hE
    obtain ⟨F, _, f1, f2, f3⟩ := fine_of hc
    have hI := evenF_band f2 ht
    have hB : evenT h s p b0 b1 = evenF h (jsOf h s p b0 b1) b0 b1 := by unfold evenT; rw [if_pos hE]
    obtain ⟨⟨lo, hi⟩, hL⟩ : ∃ B, evenF h (jsOf h s p b0 b1) b0 b1 = B := ⟨_, rfl⟩
    rw [hL] at hI hB
    obtain ⟨i1, i2, i3, i4, i5⟩ := hI
    simp only [] at i1 i2 i3 i4 i5
    obtain ⟨r, hr⟩ := tuning_f (b0 := b0) (b1 := b1) hsm hA
    have hd : checkT h s p lo hi = 0 := check_beat hc (span_ok (by omega) i2 (by omega))
    have hS : ∀ B : Int × Int, tunS h (jsOf h s p lo hi) noLeft B [] = tunS h (jsOf h s p b0 b1) noLeft B [] := fun B => tunS_beat hd hc noLeft B []
    have hA2 := asked_iff hd
    rw [hS, i4, if_pos rfl] at hA2
    obtain ⟨r2, hr2⟩ := tuning_f (b0 := lo) (b1 := hi) hsm hA2
    have hE2 : evenE h s p lo hi = 0 := by unfold evenE; rw [if_neg (fun e => e hd), if_neg hp, hA2]
    have hB2 : evenT h s p lo hi = (lo, hi) := by
     unfold evenT
     rw [if_pos hE2]
     refine (evenF_band i2 (by rw [hS, i4])).same ⟨Int.le_refl _, i2, Int.le_refl _, by show tunS _ _ _ _ _ = true; rw [hS, i4], fun c c1 c2 c3 hcc => ?_⟩
     show tunS _ _ _ _ _ = false
     rw [hS]
     exact i5 c (by omega) c2 (by omega) hcc
    obtain ⟨x, hx, x1, x2⟩ := draw_in b0 b1 n0 f1 f2 (by omega)
    obtain ⟨y, hy, y1, y2⟩ := draw_in x b1 n1 (by omega) x2 (by omega)
    have hg : okSpan ⟨lo, hi⟩ b0 b1 = true := span_ok i1 i2 i3
    have hb : 0 ≤ lo ∧ lo ≤ 60 ∧ 0 ≤ hi ∧ hi ≤ 60 ∧ 0 ≤ x ∧ x ≤ 60 ∧ 0 ≤ y ∧ y ≤ 60 := by omega
    by_cases q1 : hi - lo < y - x
    ·exact even_D ⟨H⟩ ⟨even_f hsm hE hB⟩ (decide_eq_true hc) ⟨hr⟩ hp0 ⟨hr2⟩ ⟨even_f hsm hE2 hB2⟩ hg ⟨hx⟩ ⟨hy⟩ hb (.inl (decide_eq_true q1))
    ·by_cases q2 : y - x = hi - lo ∧ lo ≤ x
     ·exact even_D ⟨H⟩ ⟨even_f hsm hE hB⟩ (decide_eq_true hc) ⟨hr⟩ hp0 ⟨hr2⟩ ⟨even_f hsm hE2 hB2⟩ hg ⟨hx⟩ ⟨hy⟩ hb (.inr ⟨decide_eq_false q1, beq_iff_eq.2 q2.1, decide_eq_true q2.2⟩)
     ·have hn : tunS h (jsOf h s p b0 b1) noLeft (x, y) [] = false := i5 (x, y) x1 y1 y2 (by show y - x < hi - lo ∨ (y - x = hi - lo ∧ x < lo); omega)
      have hd3 : checkT h s p x y = 0 := check_beat hc (span_ok (by omega) y1 (by omega))
      have hA3 := asked_iff hd3
      rw [tunS_beat hd3 hc, hn, if_neg (by decide)] at hA3
      obtain ⟨r3, hr3⟩ := tuning_f (b0 := x) (b1 := y) hsm hA3
      refine even_E ⟨H⟩ ⟨even_f hsm hE hB⟩ (decide_eq_true hc) ⟨hr⟩ hp0 ⟨hr2⟩ ⟨even_f hsm hE2 hB2⟩ hg ⟨hx⟩ ⟨hy⟩ hb ⟨hr3⟩ ?_
      by_cases e : y - x = hi - lo
      ·exact .inr ⟨decide_eq_false q1, beq_iff_eq.2 e, decide_eq_false (fun h9 => q2 ⟨e, h9⟩)⟩
      ·exact .inl ⟨decide_eq_false q1, beq_eq_false_iff_ne.2 e⟩
 ·have hE : evenE h s p b0 b1 = 10 := by unfold evenE; rw [if_pos hc]
  have hB : evenT h s p b0 b1 = (0, 0) := by unfold evenT; rw [if_neg (by rw [hE]; decide)]
  exact even_A ⟨H⟩ ⟨even_f hsm hE hB⟩ (decide_eq_false hc)
end Go.Proofs.YtgehkojccmkggaaDoor.K
end
section
namespace Go.Proofs.YtgehkojccmkggaaDoor.tuneEven
open Go.ChangeShapes Go.WideShapes Go.ChangeAt Go.RowKit Go.Proofs.YtgehkojccmkggaaDoorW.PrintWords Go.Proofs.YtgehkojccmkggaaDoor.H Go.Proofs.YtgehkojccmkggaaDoor.K
set_option linter.unusedVariables false
theorem own : ownKnob Tryd.prog.godebug = none := by kernel_rfl
theorem laidOut : laidOutB Tryd.prog = true := by kernel_rfl
abbrev zeros : Array Value := #[.agg #[.slice none 0 0, .slice none 0 0, .slice none 0 0, .int .i64 0, .int .i64 0], .agg #[.int .i64 0, .int .i64 0]]
theorem door_met (os : Os) (args : Array Value) : laidMetH Tryd.prog laid1 ((World.doorLaid Tryd.prog 600 os).forCall (fun _ _ => 0) ⟨#[], args, []⟩).memory :=
 laidMetH_of_parts3 (fuel := 8) (laidMet_of_run' 8 zk zk) zk zk
set_option maxRecDepth 100000 in
set_option maxHeartbeats 2000000 in
theorem lifted (os : Os) (started : os.Started) (H : Type) (enc : TypeId × Value → H) (F : Stop.Interp) :
  ReturnsInHanded {} Tryd.checked os 11 .any ((Rows.OpenSpec.upto Rows.tuneEvenSpec).preRow enc Tryd.prog Tryd.f11 Rows.tuneEvenUptoRow.domain false Rows.tuneEvenUptoRow.laid) (((Rows.OpenSpec.upto Rows.tuneEvenSpec).at F).post enc Tryd.prog Tryd.f11 false true false false) := by
 refine returnsInHanded_of_row (C := Tryd.checked) (s := Rows.OpenSpec.upto Rows.tuneEvenSpec) own started zk Tryd.func11
  (witness_row_at (enc := enc) (C := Tryd.checked) false (World.doorLaid Tryd.prog 600 os) zeros rfl zk zk zk
   (OpenSpec.preRow_of_cond (x := ([.agg [.nil, .nil, .nil, .agg [.lit (.int .i64 0), .lit (.int .i64 0)]], .agg [.lit (.int .i64 0), .lit (.int .i64 0)]], [], [])) 8 zk zk (fun k hk => by cases hk; kernel_rfl) zk (door_met os _))) ?_
 intro W base args ds gs before hval0 hW _ hcond _ hL _ _
 have hval : ∀ (j : Nat) t v, Tryd.f11.params[j]? = some t → args[j]? = some v → Value.okWide Tryd.prog W .any base t v := hval0
 have hbulk : Rows.uptoBulkAll (ds ++ gs) ≤ 1048576 := of_decide_eq_true (hcond _ rfl)
 have hW' := hW
 obtain ⟨p, q, hA0, hV, rfl, hfz, hnd⟩ := hW
 have hA : DataW.TrodAll enc Tryd.prog W 0 (fun _ => true) true Tryd.f11.params.toList args.toList ds p := hA0
 rw [Tryd.params11] at hA hval
 obtain ⟨v0, vs0, d0, ds0, p0, q0, hargs, rfl, rfl, h0, r0⟩ := trodAll_cons hA
 obtain ⟨v1, vs1, d1, ds1, p1, q1, rfl, rfl, rfl, h1, r1⟩ := trodAll_cons r0
 obtain ⟨rfl, rfl, rfl⟩ := trodAll_nil r1
 obtain rfl : args = #[v0, v1] := by cases args; simp_all
 obtain ⟨rfl, rfl⟩ := trodVars_none hV
 have hb0 : Rows.uptoBulk d0 ≤ 1048576 := by
  simp only [List.append_nil, Rows.uptoBulkAll] at hbulk
  omega
 have hb1 : Rows.uptoBulk d1 ≤ 1048576 := by
  simp only [List.append_nil, Rows.uptoBulkAll] at hbulk
  omega
 have k0 := h0
 have lt0 : ∀ x ∈ p0, x.block < W.heap.size := by obtain ⟨m, hm⟩ := k0; exact DataW.trod_lt m _ _ _ hm
 obtain ⟨A0, c0, l0, A1, c1, l1, A2, c2, l2, b0, b1, rfl, hc0, hC0, hc1, hC1, hc2, hC2, hs⟩ := arg_set (hval 0 28 v0 rfl rfl) h0 hb0
 have k1 := h1
 have lt1 : ∀ x ∈ p1, x.block < W.heap.size := by obtain ⟨m, hm⟩ := k1; exact DataW.trod_lt m _ _ _ hm
 obtain ⟨n0, n1, rfl, _, _⟩ := arg_two (hval 1 48 v1 rfl rfl) h1
 clear hA0 hval0
 have hG := glob_of_laid hL
 refine (tuneEven_true n0 n1 ⟨hs, hG, hC0, hc0, hC1, hc1, hC2, hc2⟩).mono fun e W' ⟨he, bel⟩ => ?_
 subst he
 exact ⟨_, rfl, _, _, _, [], _, [], hW', trodAll_mk1 (shut_bool Tryd.underlying4 _), (trodAll_cons_mk (Below.trod laidOut zk (of_decide_eq_true zk) k0 bel lt0) (trodAll_cons_mk (Below.trod laidOut zk (of_decide_eq_true zk) k1 bel lt1) trodAll_mk0)), rfl, bel.frame _, fun h => by cases h⟩
theorem over : Rows.TuneEvenUptoSaid :=
 OpenClaim.holds_of_cond 11 Tryd.f11 rfl rfl rfl rfl rfl rfl rfl ⟨rfl, rfl, rfl, rfl, rfl⟩ rfl rfl rfl rfl rfl zk Tryd.func11 zk
  (of_decide_eq_true zk) (by unfold Func.isWrapper; first | (rw [if_pos (by decide +kernel)]; kernel_rfl) | (rw [if_neg (by decide +kernel)]; exact ⟨rfl, rfl⟩))
  (fun os started H enc _ F => by rw [OpenClaim.pre_eq_preRow]; exact lifted os started H enc F)
theorem proved : Rows.TuneEvenUptoCardSaid :=
 Claim7.holds_tied_plain_at .later [] _ _ _ _ over (fun _ h => by cases h) zk (fun _ h => by cases h) tuneEvenUpto_row_tie rfl ⟨rfl, rfl⟩ zk rfl
  (fun f fn hf hfn => by
   obtain rfl : f = 11 := Option.some.inj ((show Tryd.prog.funcNamed "saron/saronlaw01.TuneEven" = some 11 by kernel_rfl).symm.trans hf) |>.symm
   obtain rfl : fn = Tryd.f11 := (Option.some.inj (Tryd.func11.symm.trans hfn)).symm
   exact ⟨by kernel_rfl, fun j t ht => by
    rw [Tryd.params11] at ht
    have hm : t ∈ [28, 48] := by simpa using Array.mem_of_getElem? ht
    have hall : ([28, 48].all fun u => !Tryd.prog.wantsStandIn u) = true := by kernel_rfl
    exact (show Tryd.prog.wantsStandIn t = false by simpa using List.all_eq_true.1 hall t hm)⟩)
  zk
end Go.Proofs.YtgehkojccmkggaaDoor.tuneEven
namespace Go.Proofs.YtgehkojccmkggaaDoor
theorem tuneEven_card : Rows.TuneEvenUptoCardSaid := tuneEven.proved
end Go.Proofs.YtgehkojccmkggaaDoor
end
