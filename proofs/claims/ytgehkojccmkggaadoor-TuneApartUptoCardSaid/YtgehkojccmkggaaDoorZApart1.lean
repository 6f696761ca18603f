/- TuneApart, its second form: for every set, and any numbers that choose the keys, of bulk at most 1,048,576, the law returns true, and each argument reads afterwards as it read before. Condition: when the call begins the package's table of asks reads as the program's text lays it; the card ties that to the text. -/
import Derived.Below
import Derived.Deep.DeepHandedRow
import Derived.JoinedCond
import Derived.LaidMore
import Derived.Lib.LaidTab
import Derived.OpenShut
import Derived.ProofKit
import Derived.SevenTiedAt
import Derived.SizedLaws
import Derived.Stop.Joined
import Derived.WalkKit
import Derived.Test.YtgehkojccmkggaaDoorCards
import Derived.Test.YtgehkojccmkggaaDoorTie
import Derived.Test.YtgehkojccmkggaaDoorZB5
import Derived.Test.YtgehkojccmkggaaDoorZB6
set_option linter.all false
section
namespace Go.Proofs.YtgehkojccmkggaaDoor.K
open Go.RowKit Go.Shelf Go.Proofs.YtgehkojccmkggaaDoorW.PrintWords Go.Proofs.YtgehkojccmkggaaDoorW.PrintLast Go.Proofs.YtgehkojccmkggaaDoorW.PrintMore Go.Proofs.YtgehkojccmkggaaDoor.H Tune
set_option linter.unusedVariables false
set_option linter.unusedSimpArgs false
attribute [local go_sem] Oper.semAt_some
attribute [local go_sem high] eqA26
attribute [local go_sem] max2_int min2_int max_two min_two
def r12.T3 : Bool × List (List Nat × List Nat) := (true, [([], []), ([0], [0]), ([], []), ([2], [2]), ([3], [3]), ([1, 4], [1, 4]), ([], []), ([6], [6]), ([], []), ([8], [8]), ([9], [9]), ([7, 10, 5], [7, 10]), ([], []), ([12], [12]), ([], []), ([14], [14]), ([15], [15]), ([13, 16, 11], [13, 16]), ([5, 17, 0, 1, 2, 3, 4, 5], [5]), ([11, 18, 0, 1, 2, 3, 4, 5, 6, 7, 8, 9, 10, 11, 18], [11]), ([17, 19, 0, 1, 2, 3, 4, 5, 6, 7, 8, 9, 10, 11, 12, 13, 14, 15, 16, 17, 18, 19], [17])])
def r12.B3 : List Nat := [0, 1, 0, 4, 12, 31, 0, 64, 0, 256, 768, 2047, 0, 4096, 0, 16384, 49152, 131071, 262143, 524287, 1048575]
theorem r12.tab3 : rtab .any (opsOf Tryd.f12 3) = r12.T3 := by kernel_rfl
theorem r12.bits3 : waitsOk r12.T3.2 r12.B3 = true := by kernel_rfl
def r12.T12 : Bool × List (List Nat × List Nat) := (true, [([], []), ([0], [0]), ([1], [1]), ([2], [2]), ([2, 2], [2]), ([3, 4, 2], [2, 3, 4]), ([2, 5], [2, 5]), ([6, 4], [6]), ([7, 7], [7]), ([7, 8], [7, 8]), ([9, 8, 0, 1, 2, 3, 4, 5, 6, 7, 8, 9], [9])])
def r12.B12 : List Nat := [0, 1, 3, 7, 7, 31, 63, 127, 255, 511, 1023]
theorem r12.tab12 : rtab .any (opsOf Tryd.f12 12) = r12.T12 := by kernel_rfl
theorem r12.bits12 : waitsOk r12.T12.2 r12.B12 = true := by kernel_rfl
def r12.T13 : Bool × List (List Nat × List Nat) := (true, [([], []), ([], []), ([1], [1]), ([2], [2]), ([], []), ([4], [4]), ([5], [5]), ([3, 6], [3, 6]), ([0, 7], [0, 7]), ([8, 7], [8]), ([9], [9]), ([9], [9]), ([11, 9], [9, 11]), ([9], [9]), ([13, 9], [9, 13]), ([12, 14, 9], [9, 12, 14]), ([9], [9]), ([16, 9], [9, 16]), ([9], [9]), ([18, 9], [9, 18]), ([17, 19, 9], [9, 17, 19]), ([15, 20, 9, 9], [9, 15, 20]), ([10, 21, 21, 9], [9, 10, 21]), ([9, 22], [9, 22]), ([23, 22], [23]), ([24], [24]), ([24, 24], [24]), ([25, 26, 24], [24, 25, 26]), ([24, 27], [24, 27]), ([28, 26], [28]), ([29, 29], [29]), ([29, 30], [29, 30]), ([31, 30, 0, 1, 2, 3, 4, 5, 6, 7, 8, 9, 10, 11, 12, 13, 14, 15, 16, 17, 18, 19, 20, 21, 22, 23, 24, 25, 26, 27, 28, 29, 30, 31], [31])])
def r12.B13 : List Nat := [0, 0, 2, 6, 0, 16, 48, 126, 255, 511, 1023, 1023, 3071, 1023, 9215, 31743, 1023, 66559, 1023, 263167, 984063, 2096127, 4194303, 8388607, 16777215, 33554431, 33554431, 134217727, 268435455, 536870911, 1073741823, 2147483647, 4294967295]
theorem r12.tab13 : rtab .any (opsOf Tryd.f12 13) = r12.T13 := by kernel_rfl
theorem r12.bits13 : waitsOk r12.T13.2 r12.B13 = true := by kernel_rfl
section
variable {A0 : Option Addr} {c0 : Nat} {h : List S26} {A1 : Option Addr} {c1 : Nat} {s : List S61} {A2 : Option Addr} {c2 : Nat} {p : List S48} {w : World} {b0 b1 : Int} {n0 n1 n2 : Int} (H : Aside0 (At A0 c0 h A1 c1 s A2 c2 p w))
include H
set_option maxRecDepth 100000 in
set_option maxHeartbeats 4000000 in
theorem apart_A (HS : decide (checkT h s p b0 b1 = 0) = false) :
  Calls Tryd.prog 12 #[.agg #[.slice A0 h.length c0, .slice A1 s.length c1, .slice A2 p.length c2, .int .i64 b0, .int .i64 b1], .agg #[.int .i64 n0, .int .i64 n1, .int .i64 n2]] w fun e w' => e = .returned (.bool true) ∧ Below w.heap.size w w' := by
 have ST := St.start w
 have HC : True := trivial
 go_enter Tryd.func12, Tryd.ntmps12
 go_wp2_with (first | ((with_reducible refine gate_dst (N := 2) rfl ?_); refine evA ST (N := 2) (cs := #[.slice A0 h.length c0, .slice A1 s.length c1, .slice A2 p.length c2, .int .i64 b0, .int .i64 b1]) (t := 28) ?_; clear ST HC; intro g2 w ST HC; simp only [Rd] at HC) | ((with_reducible refine gate_dst (N := 3) rfl ?_); refine evA ST (N := 3) (cs := #[.int .i64 n0, .int .i64 n1, .int .i64 n2]) (t := 63) ?_; clear ST HC; intro g3 w ST HC; simp only [Rd] at HC) | ((with_reducible refine gate_dst (N := 19) rfl ?_); refine evC ST (N := some 19) (cSound H HS) ?_ Tryd.func36; clear ST HC; intro w ST HC; simp only [Rd] at HC) | ((with_reducible refine gate_dst (N := 21) rfl ?_); refine evC ST (N := some 21) (cPlayed H) ?_ Tryd.func22; clear ST HC; intro w ST HC; simp only [Rd] at HC))
 go_ret
 exact ⟨rfl, ST.out.below⟩
set_option maxRecDepth 100000 in
set_option maxHeartbeats 4000000 in
theorem apart_B (HS : decide (checkT h s p b0 b1 = 0) = true){a b c o0 o1 l0 l1 : Int} (HA : Aside0 (saronref00_Turn.f n0 (h.length : Int) = some a)) (HB : Aside0 (saronref00_Turn.f n1 (h.length : Int) = some b)) (HD : Aside0 (saronref00_Turn.f n2 (h.length : Int) = some c)) {k0 k1 : Int} (H1 : Aside0 (tune_Apart.f h s p b0 b1 a b = some (0, 0, 12))) (H2 : Aside0 (tune_Apart.f h s p b0 b1 b a = some (k0, k1, 12))) (H3 : Aside0 (tune_Apart.f h s p b0 b1 b c = some (o0, o1, 12))) (H4 : Aside0 (tune_Apart.f h s p b0 b1 a c = some (l0, l1, 12))) (H5 : Aside0 (tune_Apart.f h s p b0 b1 a a = some (0, 0, 12)))  :
  Calls Tryd.prog 12 #[.agg #[.slice A0 h.length c0, .slice A1 s.length c1, .slice A2 p.length c2, .int .i64 b0, .int .i64 b1], .agg #[.int .i64 n0, .int .i64 n1, .int .i64 n2]] w fun e w' => e = .returned (.bool true) ∧ Below w.heap.size w w' := by
 have ST := St.start w
 have HC : True := trivial
 go_enter Tryd.func12, Tryd.ntmps12
 go_upto_region 3 with (first | ((with_reducible refine gate_dst (N := 2) rfl ?_); refine evA ST (N := 2) (cs := #[.slice A0 h.length c0, .slice A1 s.length c1, .slice A2 p.length c2, .int .i64 b0, .int .i64 b1]) (t := 28) ?_; clear ST HC; intro g2 w ST HC; simp only [Rd] at HC) | ((with_reducible refine gate_dst (N := 3) rfl ?_); refine evA ST (N := 3) (cs := #[.int .i64 n0, .int .i64 n1, .int .i64 n2]) (t := 63) ?_; clear ST HC; intro g3 w ST HC; simp only [Rd] at HC) | ((with_reducible refine gate_dst (N := 19) rfl ?_); refine evC ST (N := some 19) (cSound H HS) ?_ Tryd.func36; clear ST HC; intro w ST HC; simp only [Rd] at HC))
 refine zI (E := fun _ => True) (n := 21) (ds := []) ST (fun _ _ => trivial) r12.tab3 r12.bits3 ?_
 clear ST HC
 intro w ST HC HT_ HW_ HE_
 simp only [Rd] at HC
 refine zu 0 ?_
 refine zu 2 ?_
 refine zu 6 ?_
 refine zu 8 ?_
 refine zu 12 ?_
 refine zu 14 ?_
 refine zL 1 ST ?_
 refine zL 3 ST ?_
 refine zu 4 ?_
 refine zL 7 ST ?_
 refine zL 9 ST ?_
 refine zu 10 ?_
 refine zL 13 ST ?_
 refine zL 15 ST ?_
 refine zu 16 ?_
 refine zG 5 ST (cTurn n0 (h.length : Int) HA) ?_ Tryd.func39
 clear ST HC
 intro w ST HC
 simp only [Rd] at HC
 refine zG 11 ST (cTurn n1 (h.length : Int) HB) ?_ Tryd.func39
 clear ST HC
 intro w ST HC
 simp only [Rd] at HC
 refine zG 17 ST (cTurn n2 (h.length : Int) HD) ?_ Tryd.func39
 clear ST HC
 intro w ST HC
 simp only [Rd] at HC
 refine zu 18 ?_
 refine zu 19 ?_
 refine zu 20 ?_
 refine zd ?_
 clear HT_ HW_ HE_
 go_upto_region 12 with (first | ((with_reducible refine gate_dst (N := 44) rfl ?_); refine evC ST (N := some 44) (cApart H H1) ?_ Tryd.func27; clear ST HC; intro w ST HC; simp only [Rd] at HC) | ((with_reducible refine gate_dst (N := 8) rfl ?_); refine evA ST (N := 8) (cs := #[.int .i64 0, .int .i64 0]) (t := 26) ?_; clear ST HC; intro g8 w ST HC; simp only [Rd] at HC) | ((with_reducible refine gate_store (p := 8) (v := (.tmp 45)) rfl ?_); refine evS (L' := [⟨g8, #[.int .i64 0, .int .i64 0], 26, true⟩, ⟨g3, #[.int .i64 n0, .int .i64 n1, .int .i64 n2], 63, true⟩, ⟨g2, #[.slice A0 h.length c0, .slice A1 s.length c1, .slice A2 p.length c2, .int .i64 b0, .int .i64 b1], 28, true⟩]) ST (fun S => St.put (St.put S 0 (0) (.int .i64 0) rfl) 0 (1) (.int .i64 0) rfl) ?_; clear ST HC; intro w ST HC; simp only [Rd] at HC) | ((with_reducible refine gate_dst (N := 51) rfl ?_); refine evC ST (N := some 51) (cApart H H2) ?_ Tryd.func27; clear ST HC; intro w ST HC; simp only [Rd] at HC) | ((with_reducible refine gate_dst (N := 10) rfl ?_); refine evA ST (N := 10) (cs := #[.int .i64 0, .int .i64 0]) (t := 26) ?_; clear ST HC; intro g10 w ST HC; simp only [Rd] at HC) | ((with_reducible refine gate_store (p := 10) (v := (.tmp 52)) rfl ?_); refine evS (L' := [⟨g10, #[.int .i64 k0, .int .i64 k1], 26, true⟩, ⟨g8, #[.int .i64 0, .int .i64 0], 26, true⟩, ⟨g3, #[.int .i64 n0, .int .i64 n1, .int .i64 n2], 63, true⟩, ⟨g2, #[.slice A0 h.length c0, .slice A1 s.length c1, .slice A2 p.length c2, .int .i64 b0, .int .i64 b1], 28, true⟩]) ST (fun S => St.put (St.put S 0 (0) (.int .i64 k0) rfl) 0 (1) (.int .i64 k1) rfl) ?_; clear ST HC; intro w ST HC; simp only [Rd] at HC) | ((with_reducible refine gate_dst (N := 58) rfl ?_); refine evC ST (N := some 58) (cApart H H3) ?_ Tryd.func27; clear ST HC; intro w ST HC; simp only [Rd] at HC) | ((with_reducible refine gate_dst (N := 12) rfl ?_); refine evA ST (N := 12) (cs := #[.int .i64 0, .int .i64 0]) (t := 26) ?_; clear ST HC; intro g12 w ST HC; simp only [Rd] at HC) | ((with_reducible refine gate_store (p := 12) (v := (.tmp 59)) rfl ?_); refine evS (L' := [⟨g12, #[.int .i64 o0, .int .i64 o1], 26, true⟩, ⟨g10, #[.int .i64 k0, .int .i64 k1], 26, true⟩, ⟨g8, #[.int .i64 0, .int .i64 0], 26, true⟩, ⟨g3, #[.int .i64 n0, .int .i64 n1, .int .i64 n2], 63, true⟩, ⟨g2, #[.slice A0 h.length c0, .slice A1 s.length c1, .slice A2 p.length c2, .int .i64 b0, .int .i64 b1], 28, true⟩]) ST (fun S => St.put (St.put S 0 (0) (.int .i64 o0) rfl) 0 (1) (.int .i64 o1) rfl) ?_; clear ST HC; intro w ST HC; simp only [Rd] at HC) | ((with_reducible refine gate_dst (N := 65) rfl ?_); refine evC ST (N := some 65) (cApart H H4) ?_ Tryd.func27; clear ST HC; intro w ST HC; simp only [Rd] at HC) | ((with_reducible refine gate_dst (N := 14) rfl ?_); refine evA ST (N := 14) (cs := #[.int .i64 0, .int .i64 0]) (t := 26) ?_; clear ST HC; intro g14 w ST HC; simp only [Rd] at HC) | ((with_reducible refine gate_store (p := 14) (v := (.tmp 66)) rfl ?_); refine evS (L' := [⟨g14, #[.int .i64 l0, .int .i64 l1], 26, true⟩, ⟨g12, #[.int .i64 o0, .int .i64 o1], 26, true⟩, ⟨g10, #[.int .i64 k0, .int .i64 k1], 26, true⟩, ⟨g8, #[.int .i64 0, .int .i64 0], 26, true⟩, ⟨g3, #[.int .i64 n0, .int .i64 n1, .int .i64 n2], 63, true⟩, ⟨g2, #[.slice A0 h.length c0, .slice A1 s.length c1, .slice A2 p.length c2, .int .i64 b0, .int .i64 b1], 28, true⟩]) ST (fun S => St.put (St.put S 0 (0) (.int .i64 l0) rfl) 0 (1) (.int .i64 l1) rfl) ?_; clear ST HC; intro w ST HC; simp only [Rd] at HC) | ((with_reducible refine gate_dst (N := 72) rfl ?_); refine evC ST (N := some 72) (cApart H H5) ?_ Tryd.func27; clear ST HC; intro w ST HC; simp only [Rd] at HC) | ((with_reducible refine gate_dst (N := 16) rfl ?_); refine evA ST (N := 16) (cs := #[.int .i64 0, .int .i64 0]) (t := 26) ?_; clear ST HC; intro g16 w ST HC; simp only [Rd] at HC) | ((with_reducible refine gate_store (p := 16) (v := (.tmp 73)) rfl ?_); refine evS (L' := [⟨g16, #[.int .i64 0, .int .i64 0], 26, true⟩, ⟨g14, #[.int .i64 l0, .int .i64 l1], 26, true⟩, ⟨g12, #[.int .i64 o0, .int .i64 o1], 26, true⟩, ⟨g10, #[.int .i64 k0, .int .i64 k1], 26, true⟩, ⟨g8, #[.int .i64 0, .int .i64 0], 26, true⟩, ⟨g3, #[.int .i64 n0, .int .i64 n1, .int .i64 n2], 63, true⟩, ⟨g2, #[.slice A0 h.length c0, .slice A1 s.length c1, .slice A2 p.length c2, .int .i64 b0, .int .i64 b1], 28, true⟩]) ST (fun S => St.put (St.put S 0 (0) (.int .i64 0) rfl) 0 (1) (.int .i64 0) rfl) ?_; clear ST HC; intro w ST HC; simp only [Rd] at HC))
 refine zI (E := fun _ => True) (n := 11) (ds := []) ST (fun _ _ => trivial) r12.tab12 r12.bits12 ?_
 clear ST HC
 intro w ST HC HT_ HW_ HE_
 simp only [Rd] at HC
 refine zu 0 ?_
 refine zu 1 ?_
 refine zu 2 ?_
 refine zL 3 ST ?_
 refine zG 4 ST (cBand 0 0) ?_ Tryd.func42
 clear ST HC
 intro w ST HC
 simp only [Rd] at HC
 refine zu 5 ?_
 refine zu 6 ?_
 refine zu 7 ?_
 refine zG 8 ST (cPlayed H) ?_ Tryd.func22
 clear ST HC
 intro w ST HC
 simp only [Rd] at HC
 refine zu 9 ?_
 refine zu 10 ?_
 refine zd ?_
 clear HT_ HW_ HE_
 go_wp2_with (fail)
 go_ret
 exact ⟨rfl, ST.out.below⟩
set_option maxRecDepth 100000 in
set_option maxHeartbeats 4000000 in
theorem apart_C (HS : decide (checkT h s p b0 b1 = 0) = true){a b c o0 o1 l0 l1 : Int} (HA : Aside0 (saronref00_Turn.f n0 (h.length : Int) = some a)) (HB : Aside0 (saronref00_Turn.f n1 (h.length : Int) = some b)) (HD : Aside0 (saronref00_Turn.f n2 (h.length : Int) = some c)) {d0 d1 : Int} (H1 : Aside0 (tune_Apart.f h s p b0 b1 a b = some (d0, d1, 0))) (H2 : Aside0 (tune_Apart.f h s p b0 b1 b a = some (wrap64 (-d1), wrap64 (-d0), 0))) (H3 : Aside0 (tune_Apart.f h s p b0 b1 b c = some (o0, o1, 0))) (H4 : Aside0 (tune_Apart.f h s p b0 b1 a c = some (l0, l1, 0))) (H5 : Aside0 (tune_Apart.f h s p b0 b1 a a = some (0, 0, 0))) (HU : saronref00_Under.f l0 l1 (wrap64 (d0 + o0)) (wrap64 (d1 + o1)) = some true) :
  Calls Tryd.prog 12 #[.agg #[.slice A0 h.length c0, .slice A1 s.length c1, .slice A2 p.length c2, .int .i64 b0, .int .i64 b1], .agg #[.int .i64 n0, .int .i64 n1, .int .i64 n2]] w fun e w' => e = .returned (.bool true) ∧ Below w.heap.size w w' := by
 have ST := St.start w
 have HC : True := trivial
 go_enter Tryd.func12, Tryd.ntmps12
 go_upto_region 3 with (first | ((with_reducible refine gate_dst (N := 2) rfl ?_); refine evA ST (N := 2) (cs := #[.slice A0 h.length c0, .slice A1 s.length c1, .slice A2 p.length c2, .int .i64 b0, .int .i64 b1]) (t := 28) ?_; clear ST HC; intro g2 w ST HC; simp only [Rd] at HC) | ((with_reducible refine gate_dst (N := 3) rfl ?_); refine evA ST (N := 3) (cs := #[.int .i64 n0, .int .i64 n1, .int .i64 n2]) (t := 63) ?_; clear ST HC; intro g3 w ST HC; simp only [Rd] at HC) | ((with_reducible refine gate_dst (N := 19) rfl ?_); refine evC ST (N := some 19) (cSound H HS) ?_ Tryd.func36; clear ST HC; intro w ST HC; simp only [Rd] at HC))
 refine zI (E := fun _ => True) (n := 21) (ds := []) ST (fun _ _ => trivial) r12.tab3 r12.bits3 ?_
 clear ST HC
 intro w ST HC HT_ HW_ HE_
 simp only [Rd] at HC
 refine zu 0 ?_
 refine zu 2 ?_
 refine zu 6 ?_
 refine zu 8 ?_
 refine zu 12 ?_
 refine zu 14 ?_
 refine zL 1 ST ?_
 refine zL 3 ST ?_
 refine zu 4 ?_
 refine zL 7 ST ?_
 refine zL 9 ST ?_
 refine zu 10 ?_
 refine zL 13 ST ?_
 refine zL 15 ST ?_
 refine zu 16 ?_
 refine zG 5 ST (cTurn n0 (h.length : Int) HA) ?_ Tryd.func39
 clear ST HC
 intro w ST HC
 simp only [Rd] at HC
 refine zG 11 ST (cTurn n1 (h.length : Int) HB) ?_ Tryd.func39
 clear ST HC
 intro w ST HC
 simp only [Rd] at HC
 refine zG 17 ST (cTurn n2 (h.length : Int) HD) ?_ Tryd.func39
 clear ST HC
 intro w ST HC
 simp only [Rd] at HC
 refine zu 18 ?_
 refine zu 19 ?_
 refine zu 20 ?_
 refine zd ?_
 clear HT_ HW_ HE_
 go_upto_region 13 with (first | ((with_reducible refine gate_dst (N := 44) rfl ?_); refine evC ST (N := some 44) (cApart H H1) ?_ Tryd.func27; clear ST HC; intro w ST HC; simp only [Rd] at HC) | ((with_reducible refine gate_dst (N := 8) rfl ?_); refine evA ST (N := 8) (cs := #[.int .i64 0, .int .i64 0]) (t := 26) ?_; clear ST HC; intro g8 w ST HC; simp only [Rd] at HC) | ((with_reducible refine gate_store (p := 8) (v := (.tmp 45)) rfl ?_); refine evS (L' := [⟨g8, #[.int .i64 d0, .int .i64 d1], 26, true⟩, ⟨g3, #[.int .i64 n0, .int .i64 n1, .int .i64 n2], 63, true⟩, ⟨g2, #[.slice A0 h.length c0, .slice A1 s.length c1, .slice A2 p.length c2, .int .i64 b0, .int .i64 b1], 28, true⟩]) ST (fun S => St.put (St.put S 0 (0) (.int .i64 d0) rfl) 0 (1) (.int .i64 d1) rfl) ?_; clear ST HC; intro w ST HC; simp only [Rd] at HC) | ((with_reducible refine gate_dst (N := 51) rfl ?_); refine evC ST (N := some 51) (cApart H H2) ?_ Tryd.func27; clear ST HC; intro w ST HC; simp only [Rd] at HC) | ((with_reducible refine gate_dst (N := 10) rfl ?_); refine evA ST (N := 10) (cs := #[.int .i64 0, .int .i64 0]) (t := 26) ?_; clear ST HC; intro g10 w ST HC; simp only [Rd] at HC) | ((with_reducible refine gate_store (p := 10) (v := (.tmp 52)) rfl ?_); refine evS (L' := [⟨g10, #[.int .i64 (wrap64 (-d1)), .int .i64 (wrap64 (-d0))], 26, true⟩, ⟨g8, #[.int .i64 d0, .int .i64 d1], 26, true⟩, ⟨g3, #[.int .i64 n0, .int .i64 n1, .int .i64 n2], 63, true⟩, ⟨g2, #[.slice A0 h.length c0, .slice A1 s.length c1, .slice A2 p.length c2, .int .i64 b0, .int .i64 b1], 28, true⟩]) ST (fun S => St.put (St.put S 0 (0) (.int .i64 (wrap64 (-d1))) rfl) 0 (1) (.int .i64 (wrap64 (-d0))) rfl) ?_; clear ST HC; intro w ST HC; simp only [Rd] at HC) | ((with_reducible refine gate_dst (N := 58) rfl ?_); refine evC ST (N := some 58) (cApart H H3) ?_ Tryd.func27; clear ST HC; intro w ST HC; simp only [Rd] at HC) | ((with_reducible refine gate_dst (N := 12) rfl ?_); refine evA ST (N := 12) (cs := #[.int .i64 0, .int .i64 0]) (t := 26) ?_; clear ST HC; intro g12 w ST HC; simp only [Rd] at HC) | ((with_reducible refine gate_store (p := 12) (v := (.tmp 59)) rfl ?_); refine evS (L' := [⟨g12, #[.int .i64 o0, .int .i64 o1], 26, true⟩, ⟨g10, #[.int .i64 (wrap64 (-d1)), .int .i64 (wrap64 (-d0))], 26, true⟩, ⟨g8, #[.int .i64 d0, .int .i64 d1], 26, true⟩, ⟨g3, #[.int .i64 n0, .int .i64 n1, .int .i64 n2], 63, true⟩, ⟨g2, #[.slice A0 h.length c0, .slice A1 s.length c1, .slice A2 p.length c2, .int .i64 b0, .int .i64 b1], 28, true⟩]) ST (fun S => St.put (St.put S 0 (0) (.int .i64 o0) rfl) 0 (1) (.int .i64 o1) rfl) ?_; clear ST HC; intro w ST HC; simp only [Rd] at HC) | ((with_reducible refine gate_dst (N := 65) rfl ?_); refine evC ST (N := some 65) (cApart H H4) ?_ Tryd.func27; clear ST HC; intro w ST HC; simp only [Rd] at HC) | ((with_reducible refine gate_dst (N := 14) rfl ?_); refine evA ST (N := 14) (cs := #[.int .i64 0, .int .i64 0]) (t := 26) ?_; clear ST HC; intro g14 w ST HC; simp only [Rd] at HC) | ((with_reducible refine gate_store (p := 14) (v := (.tmp 66)) rfl ?_); refine evS (L' := [⟨g14, #[.int .i64 l0, .int .i64 l1], 26, true⟩, ⟨g12, #[.int .i64 o0, .int .i64 o1], 26, true⟩, ⟨g10, #[.int .i64 (wrap64 (-d1)), .int .i64 (wrap64 (-d0))], 26, true⟩, ⟨g8, #[.int .i64 d0, .int .i64 d1], 26, true⟩, ⟨g3, #[.int .i64 n0, .int .i64 n1, .int .i64 n2], 63, true⟩, ⟨g2, #[.slice A0 h.length c0, .slice A1 s.length c1, .slice A2 p.length c2, .int .i64 b0, .int .i64 b1], 28, true⟩]) ST (fun S => St.put (St.put S 0 (0) (.int .i64 l0) rfl) 0 (1) (.int .i64 l1) rfl) ?_; clear ST HC; intro w ST HC; simp only [Rd] at HC) | ((with_reducible refine gate_dst (N := 72) rfl ?_); refine evC ST (N := some 72) (cApart H H5) ?_ Tryd.func27; clear ST HC; intro w ST HC; simp only [Rd] at HC) | ((with_reducible refine gate_dst (N := 16) rfl ?_); refine evA ST (N := 16) (cs := #[.int .i64 0, .int .i64 0]) (t := 26) ?_; clear ST HC; intro g16 w ST HC; simp only [Rd] at HC) | ((with_reducible refine gate_store (p := 16) (v := (.tmp 73)) rfl ?_); refine evS (L' := [⟨g16, #[.int .i64 0, .int .i64 0], 26, true⟩, ⟨g14, #[.int .i64 l0, .int .i64 l1], 26, true⟩, ⟨g12, #[.int .i64 o0, .int .i64 o1], 26, true⟩, ⟨g10, #[.int .i64 (wrap64 (-d1)), .int .i64 (wrap64 (-d0))], 26, true⟩, ⟨g8, #[.int .i64 d0, .int .i64 d1], 26, true⟩, ⟨g3, #[.int .i64 n0, .int .i64 n1, .int .i64 n2], 63, true⟩, ⟨g2, #[.slice A0 h.length c0, .slice A1 s.length c1, .slice A2 p.length c2, .int .i64 b0, .int .i64 b1], 28, true⟩]) ST (fun S => St.put (St.put S 0 (0) (.int .i64 0) rfl) 0 (1) (.int .i64 0) rfl) ?_; clear ST HC; intro w ST HC; simp only [Rd] at HC))
 refine zI (E := fun _ => True) (n := 33) (ds := []) ST (fun _ _ => trivial) r12.tab13 r12.bits13 ?_
 clear ST HC
 intro w ST HC HT_ HW_ HE_
 simp only [Rd] at HC
 refine zu 1 ?_
 refine zu 4 ?_
 refine zL 0 ST ?_
 refine zL 2 ST ?_
 refine zu 3 ?_
 refine zL 5 ST ?_
 refine zu 6 ?_
 refine zG 7 ST (cBand (wrap64 (-d1)) (wrap64 (-d0))) ?_ Tryd.func42
 clear ST HC
 intro w ST HC
 simp only [Rd] at HC
 refine zu 8 ?_
 refine zu 9 ?_
 refine zu 11 ?_
 refine zu 13 ?_
 refine zu 16 ?_
 refine zu 18 ?_
 refine zL 10 ST ?_
 refine zL 12 ST ?_
 refine zL 14 ST ?_
 refine zu 15 ?_
 refine zL 17 ST ?_
 refine zL 19 ST ?_
 refine zu 20 ?_
 refine zG 21 ST (cBand (wrap64 (d0 + o0)) (wrap64 (d1 + o1))) ?_ Tryd.func42
 clear ST HC
 intro w ST HC
 simp only [Rd] at HC
 refine zG 22 ST (cUnder l0 l1 _ _ HU) ?_ Tryd.func41
 clear ST HC
 intro w ST HC
 simp only [Rd] at HC
 refine zu 23 ?_
 refine zu 24 ?_
 refine zL 25 ST ?_
 refine zG 26 ST (cBand 0 0) ?_ Tryd.func42
 clear ST HC
 intro w ST HC
 simp only [Rd] at HC
 refine zu 27 ?_
 refine zu 28 ?_
 refine zu 29 ?_
 refine zG 30 ST (cPlayed H) ?_ Tryd.func22
 clear ST HC
 intro w ST HC
 simp only [Rd] at HC
 refine zu 31 ?_
 refine zu 32 ?_
 refine zd ?_
 clear HT_ HW_ HE_
 go_wp2_with (fail)
 go_ret
 exact ⟨rfl, ST.out.below⟩
end
end Go.Proofs.YtgehkojccmkggaaDoor.K
end
section
namespace Go.Proofs.YtgehkojccmkggaaDoor.K
open Go.RowKit Go.Shelf Go.Proofs.YtgehkojccmkggaaDoorW.PrintWords Go.Proofs.YtgehkojccmkggaaDoorW.PrintLast Go.Proofs.YtgehkojccmkggaaDoorW.PrintMore Go.Proofs.YtgehkojccmkggaaDoor.H Tune
set_option linter.unusedVariables false
set_option linter.unusedSimpArgs false
attribute [local go_sem] Oper.semAt_some
theorem asked_two {h : List S26} {s : List S61} {p : List S48} {b0 b1 : Int} (hc : checkT h s p b0 b1 = 0) : askedE h s p b0 b1 true = 0 ∨ askedE h s p b0 b1 true = 12 := by
 unfold askedE
 rw [if_neg (fun e => e hc), if_neg (by decide)]
 split
 ·exact .inl rfl
 ·exact .inr rfl
theorem inK_nat {n k : Nat} (h : k < n) : inK n (k : Int) = true := by unfold inK; rw [decide_eq_true (by omega), decide_eq_true (by omega)]; rfl
theorem TunS.span {h : List S26} {js : List J} {b : Int × Int} (F : Fine h js) {l : Nat → Int} (hl : TunS h js b l) {k : Nat} (hk : k < h.length) : 1 ≤ l k ∧ l k ≤ 4000 := by
 have h1 := hl.1 k hk rfl
 have h2 := F.span k hk
 omega
theorem range_bounds {h : List S26} {js : List J} {b : Int × Int} (F : Fine h js) {a c : Nat} (ha : a < h.length) (hc : c < h.length) {r : Int × Int} (hr : IsRange h js b a c r) : -4000 ≤ r.1 ∧ r.1 ≤ 4000 ∧ -4000 ≤ r.2 ∧ r.2 ≤ 4000 := by
 obtain ⟨_, ⟨l, hl, e1⟩, ⟨l', hl', e2⟩⟩ := hr
 have h1 := hl.span F ha
 have h2 := hl.span F hc
 have h3 := hl'.span F ha
 have h4 := hl'.span F hc
 omega
theorem apart_f {h : List S26} {s : List S61} {p : List S48} {b0 b1 : Int} (hsm : small h s p = true) {x y : Nat} (hx : x < h.length) (hy : y < h.length) : tune_Apart.f h s p b0 b1 (x : Int) (y : Int) = some ((apartT h s p b0 b1 x y).1, (apartT h s p b0 b1 x y).2, askedE h s p b0 b1 true) := by
 unfold tune_Apart.f
 rw [if_pos hsm, show apartE h s p b0 b1 (x : Int) (y : Int) = askedE h s p b0 b1 true by unfold apartE; rw [inK_nat hx, inK_nat hy]; rfl]
theorem apart_no {h : List S26} {s : List S61} {p : List S48} {b0 b1 : Int} {x y : Nat} (hx : x < h.length) (hy : y < h.length) (hE : askedE h s p b0 b1 true = 12) : apartT h s p b0 b1 (x : Int) (y : Int) = (0, 0) := by
 unfold apartT
 rw [if_neg]
 rw [show apartE h s p b0 b1 (x : Int) (y : Int) = askedE h s p b0 b1 true by unfold apartE; rw [inK_nat hx, inK_nat hy]; rfl, hE]
 decide
theorem apart_own {h : List S26} {s : List S61} {p : List S48} {b0 b1 : Int} {x : Int} : apartT h s p b0 b1 x x = (0, 0) := by unfold apartT; split <;> simp
theorem tuneApart_true {A0 : Option Addr} {c0 : Nat} {h : List S26} {A1 : Option Addr} {c1 : Nat} {s : List S61} {A2 : Option Addr} {c2 : Nat} {p : List S48} {w : World} {b0 b1 : Int} (n0 n1 n2 : Int) (H : At A0 c0 h A1 c1 s A2 c2 p w) :
  Calls Tryd.prog 12 #[.agg #[.slice A0 h.length c0, .slice A1 s.length c1, .slice A2 p.length c2, .int .i64 b0, .int .i64 b1], .agg #[.int .i64 n0, .int .i64 n1, .int .i64 n2]] w fun e w' => e = .returned (.bool true) ∧ Below w.heap.size w w' := by
 have hsm := H.sm
 by_cases hc : checkT h s p b0 b1 = 0
 ·obtain ⟨F, _⟩ := fine_of hc
  obtain ⟨a, ha, ea⟩ := turn_at n0 h.length F.some (by have := F.few; omega)
  obtain ⟨b, hb, eb⟩ := turn_at n1 h.length F.some (by have := F.few; omega)
  obtain ⟨c, hcl, ec⟩ := turn_at n2 h.length F.some (by have := F.few; omega)
  have f1 := apart_f (b0 := b0) (b1 := b1) hsm ha hb
  have f2 := apart_f (b0 := b0) (b1 := b1) hsm hb ha
  have f3 := apart_f (b0 := b0) (b1 := b1) hsm hb hcl
  have f4 := apart_f (b0 := b0) (b1 := b1) hsm ha hcl
  have f5 := apart_f (b0 := b0) (b1 := b1) hsm ha ha
  rw [apart_own] at f5
  rcases asked_two hc with hE | hE
  ·obtain ⟨_, r1⟩ := apart_range (s := s) (p := p) (b0 := b0) (b1 := b1) ha hb hE
   obtain ⟨_, r2⟩ := apart_range (s := s) (p := p) (b0 := b0) (b1 := b1) hb ha hE
   obtain ⟨_, r3⟩ := apart_range (s := s) (p := p) (b0 := b0) (b1 := b1) hb hcl hE
   obtain ⟨_, r4⟩ := apart_range (s := s) (p := p) (b0 := b0) (b1 := b1) ha hcl hE
   have q1 := range_bounds F ha hb r1
   have q3 := range_bounds F hb hcl r3
   obtain ⟨u1, ⟨x1, hx1, ex1⟩, ⟨y1, hy1, ey1⟩⟩ := r1
   obtain ⟨u2, ⟨x2, hx2, ex2⟩, ⟨y2, hy2, ey2⟩⟩ := r2
   obtain ⟨u3, _, _⟩ := r3
   obtain ⟨u4, ⟨x4, hx4, ex4⟩, ⟨y4, hy4, ey4⟩⟩ := r4
   have e1 : (apartT h s p b0 b1 (b : Int) (a : Int)).1 = -(apartT h s p b0 b1 (a : Int) (b : Int)).2 := by
    have h1 := u1 x2 hx2
    have h2 := u2 y1 hy1
    omega
   have e2 : (apartT h s p b0 b1 (b : Int) (a : Int)).2 = -(apartT h s p b0 b1 (a : Int) (b : Int)).1 := by
    have h1 := u1 y2 hy2
    have h2 := u2 x1 hx1
    omega
   have e3 : (apartT h s p b0 b1 (a : Int) (b : Int)).1 + (apartT h s p b0 b1 (b : Int) (c : Int)).1 ≤ (apartT h s p b0 b1 (a : Int) (c : Int)).1 := by
    have h1 := u1 x4 hx4
    have h2 := u3 x4 hx4
    omega
   have e4 : (apartT h s p b0 b1 (a : Int) (c : Int)).2 ≤ (apartT h s p b0 b1 (a : Int) (b : Int)).2 + (apartT h s p b0 b1 (b : Int) (c : Int)).2 := by
    have h1 := u1 y4 hy4
    have h2 := u3 y4 hy4
    omega
   rw [e1, e2, ← w64 (x := -(apartT h s p b0 b1 (a : Int) (b : Int)).2) (by omega) (by omega), ← w64 (x := -(apartT h s p b0 b1 (a : Int) (b : Int)).1) (by omega) (by omega)] at f2
   rw [hE] at f1 f2 f3 f4 f5
   refine apart_C ⟨H⟩ (decide_eq_true hc) ⟨ea⟩ ⟨eb⟩ ⟨ec⟩ ⟨f1⟩ ⟨f2⟩ ⟨f3⟩ ⟨f4⟩ ⟨f5⟩ ?_
   unfold saronref00_Under.f
   rw [w64 (by omega) (by omega), w64 (by omega) (by omega), if_pos e3, decide_eq_true e4]
  ·rw [apart_no ha hb hE] at f1
   rw [hE] at f1 f2 f3 f4 f5
   exact apart_B ⟨H⟩ (decide_eq_true hc) ⟨ea⟩ ⟨eb⟩ ⟨ec⟩ ⟨f1⟩ ⟨f2⟩ ⟨f3⟩ ⟨f4⟩ ⟨f5⟩
 ·exact apart_A ⟨H⟩ (decide_eq_false hc)
end Go.Proofs.YtgehkojccmkggaaDoor.K
end
section
namespace Go.Proofs.YtgehkojccmkggaaDoor.tuneApart
open Go.ChangeShapes Go.WideShapes Go.ChangeAt Go.RowKit Go.Proofs.YtgehkojccmkggaaDoorW.PrintWords Go.Proofs.YtgehkojccmkggaaDoor.H Go.Proofs.YtgehkojccmkggaaDoor.K
set_option linter.unusedVariables false
theorem own : ownKnob Tryd.prog.godebug = none := by kernel_rfl
theorem laidOut : laidOutB Tryd.prog = true := by kernel_rfl
abbrev zeros : Array Value := #[.agg #[.slice none 0 0, .slice none 0 0, .slice none 0 0, .int .i64 0, .int .i64 0], .agg #[.int .i64 0, .int .i64 0, .int .i64 0]]
theorem door_met (os : Os) (args : Array Value) : laidMetH Tryd.prog laid1 ((World.doorLaid Tryd.prog 600 os).forCall (fun _ _ => 0) ⟨#[], args, []⟩).memory :=
 laidMetH_of_parts3 (fuel := 8) (laidMet_of_run' 8 zk zk) zk zk
set_option maxRecDepth 100000 in
set_option maxHeartbeats 2000000 in
theorem lifted (os : Os) (started : os.Started) (H : Type) (enc : TypeId × Value → H) (F : Stop.Interp) :
  ReturnsInHanded {} Tryd.checked os 12 .any ((Rows.OpenSpec.upto Rows.tuneApartSpec).preRow enc Tryd.prog Tryd.f12 Rows.tuneApartUptoRow.domain false Rows.tuneApartUptoRow.laid) (((Rows.OpenSpec.upto Rows.tuneApartSpec).at F).post enc Tryd.prog Tryd.f12 false true false false) := by
 refine returnsInHanded_of_row (C := Tryd.checked) (s := Rows.OpenSpec.upto Rows.tuneApartSpec) own started zk Tryd.func12
  (witness_row_at (enc := enc) (C := Tryd.checked) false (World.doorLaid Tryd.prog 600 os) zeros rfl zk zk zk
   (OpenSpec.preRow_of_cond (x := ([.agg [.nil, .nil, .nil, .agg [.lit (.int .i64 0), .lit (.int .i64 0)]], .agg [.lit (.int .i64 0), .lit (.int .i64 0), .lit (.int .i64 0)]], [], [])) 8 zk zk (fun k hk => by cases hk; kernel_rfl) zk (door_met os _))) ?_
 intro W base args ds gs before hval0 hW _ hcond _ hL _ _
 have hval : ∀ (j : Nat) t v, Tryd.f12.params[j]? = some t → args[j]? = some v → Value.okWide Tryd.prog W .any base t v := hval0
 have hbulk : Rows.uptoBulkAll (ds ++ gs) ≤ 1048576 := of_decide_eq_true (hcond _ rfl)
 have hW' := hW
 obtain ⟨p, q, hA0, hV, rfl, hfz, hnd⟩ := hW
 have hA : DataW.TrodAll enc Tryd.prog W 0 (fun _ => true) true Tryd.f12.params.toList args.toList ds p := hA0
 rw [Tryd.params12] at hA hval
 obtain ⟨v0, vs0, d0, ds0, p0, q0, hargs, rfl, rfl, h0, r0⟩ := trodAll_cons hA
 obtain ⟨v1, vs1, d1, ds1, p1, q1, rfl, rfl, rfl, h1, r1⟩ := trodAll_cons r0
 obtain ⟨rfl, rfl, rfl⟩ := trodAll_nil r1
 obtain rfl : args = #[v0, v1] := by cases args; simp_all
 obtain ⟨rfl, rfl⟩ := trodVars_none hV
 have hb0 : Rows.uptoBulk d0 ≤ 1048576 := by
  simp only [List.append_nil, Rows.uptoBulkAll] at hbulk
  omega
 have hb1 : Rows.uptoBulk d1 ≤ 1048576 := by
  simp only [List.append_nil, Rows.uptoBulkAll] at hbulk
  omega
 have k0 := h0
 have lt0 : ∀ x ∈ p0, x.block < W.heap.size := by obtain ⟨m, hm⟩ := k0; exact DataW.trod_lt m _ _ _ hm
 obtain ⟨A0, c0, l0, A1, c1, l1, A2, c2, l2, b0, b1, rfl, hc0, hC0, hc1, hC1, hc2, hC2, hs⟩ := arg_set (hval 0 28 v0 rfl rfl) h0 hb0
 have k1 := h1
 have lt1 : ∀ x ∈ p1, x.block < W.heap.size := by obtain ⟨m, hm⟩ := k1; exact DataW.trod_lt m _ _ _ hm
 obtain ⟨n0, n1, n2, rfl, _, _, _⟩ := arg_three (hval 1 63 v1 rfl rfl) h1
 clear hA0 hval0
 have hG := glob_of_laid hL
 refine (tuneApart_true n0 n1 n2 ⟨hs, hG, hC0, hc0, hC1, hc1, hC2, hc2⟩).mono fun e W' ⟨he, bel⟩ => ?_
 subst he
 exact ⟨_, rfl, _, _, _, [], _, [], hW', trodAll_mk1 (shut_bool Tryd.underlying4 _), (trodAll_cons_mk (Below.trod laidOut zk (of_decide_eq_true zk) k0 bel lt0) (trodAll_cons_mk (Below.trod laidOut zk (of_decide_eq_true zk) k1 bel lt1) trodAll_mk0)), rfl, bel.frame _, fun h => by cases h⟩
theorem over : Rows.TuneApartUptoSaid :=
 OpenClaim.holds_of_cond 12 Tryd.f12 rfl rfl rfl rfl rfl rfl rfl ⟨rfl, rfl, rfl, rfl, rfl⟩ rfl rfl rfl rfl rfl zk Tryd.func12 zk
  (of_decide_eq_true zk) (by unfold Func.isWrapper; first | (rw [if_pos (by decide +kernel)]; kernel_rfl) | (rw [if_neg (by decide +kernel)]; exact ⟨rfl, rfl⟩))
  (fun os started H enc _ F => by rw [OpenClaim.pre_eq_preRow]; exact lifted os started H enc F)
theorem proved : Rows.TuneApartUptoCardSaid :=
 Claim7.holds_tied_plain_at .later [] _ _ _ _ over (fun _ h => by cases h) zk (fun _ h => by cases h) tuneApartUpto_row_tie rfl ⟨rfl, rfl⟩ zk rfl
  (fun f fn hf hfn => by
   obtain rfl : f = 12 := Option.some.inj ((show Tryd.prog.funcNamed "saron/saronlaw01.TuneApart" = some 12 by kernel_rfl).symm.trans hf) |>.symm
   obtain rfl : fn = Tryd.f12 := (Option.some.inj (Tryd.func12.symm.trans hfn)).symm
   exact ⟨by kernel_rfl, fun j t ht => by
    rw [Tryd.params12] at ht
    have hm : t ∈ [28, 63] := by simpa using Array.mem_of_getElem? ht
    have hall : ([28, 63].all fun u => !Tryd.prog.wantsStandIn u) = true := by kernel_rfl
    exact (show Tryd.prog.wantsStandIn t = false by simpa using List.all_eq_true.1 hall t hm)⟩)
  zk
end Go.Proofs.YtgehkojccmkggaaDoor.tuneApart
namespace Go.Proofs.YtgehkojccmkggaaDoor
theorem tuneApart_card : Rows.TuneApartUptoCardSaid := tuneApart.proved
end Go.Proofs.YtgehkojccmkggaaDoor
end
