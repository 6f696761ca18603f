/- Texts of this seat, joined (pruned by a program of this session to what the claim comes to). -/
import Derived.ArgAppend
import Derived.Below
import Derived.BigQuiet
import Derived.Carry
import Derived.ChangeKeysEq
import Derived.Deep.AppendLies
import Derived.Deep.CutBlock
import Derived.Deep.DeepCutAuto
import Derived.Deep.Draws
import Derived.Deep.LoopGhost
import Derived.Deep.OwnRows
import Derived.Deep.QuietTactic
import Derived.Deep.RegionHeld3
import Derived.IntWalk
import Derived.KernelRfl
import Derived.Laws.BitsLemmas
import Derived.Laws.BytesArg
import Derived.Laws.IdiomCopy
import Derived.Laws.MakeOwn
import Derived.Laws.OwnMore
import Derived.Laws.Rows
import Derived.Laws.Slices
import Derived.Laws.StructEq
import Derived.Lib.AppendStr
import Derived.Lib.ConvBytes
import Derived.LoopIn
import Derived.LoopNIn
import Derived.Maps.AppendAt
import Derived.OrdersHeld
import Derived.OrdersIn
import Derived.Outline
import Derived.OwnWalk
import Derived.OwnWalkIn
import Derived.RangeFuncBound
import Derived.RangeFuncCalls
import Derived.RangeFuncLeaves
import Derived.RangeFuncNested
import Derived.RowKit
import Derived.RowKit3
import Derived.Scope
import Derived.Shelf.Abstract
import Derived.Shelf.RegionOpen
import Derived.StillTailTactics
import Derived.Tactics
import Derived.TacticsInMore
import Derived.WalkKit
import Derived.WideLaws
import Derived.Test.YtagkfkdoibnhfaaDoorProg
import Derived.Test.YtagkfkdoibnhfaaDoorZB1
section
namespace Go.Proofs.YtagkfkdoibnhfaaDoor.H
open Go.RowKit Go.Proofs.YtagkfkdoibnhfaaDoorW.PrintWords Go.Proofs.YtagkfkdoibnhfaaDoorW.PrintLast Go.Proofs.YtagkfkdoibnhfaaDoorW.PrintMore
attribute [local go_sem] max2_int min2_int max_two min_two max_three min_three max_four min_four   -- for this text's walks alone
set_option linter.unusedVariables false
set_option linter.unusedSimpArgs false
theorem info3 : (Tryd.prog.info? 3).map (fun i => (i.zero, i.size, i.bytes)) = some (some (.int .i64 0), 1, 8) := by kernel_rfl
theorem info25 : (Tryd.prog.info? 25).map (fun i => (i.zero, i.size, i.bytes)) = some (some (.slice none 0 0), 1, 24) := by kernel_rfl
theorem info44 : (Tryd.prog.info? 44).map (fun i => (i.zero, i.size, i.bytes)) = some (some (.slice none 0 0), 1, 24) := by kernel_rfl
theorem info60 : (Tryd.prog.info? 60).map (fun i => (i.zero, i.size, i.bytes)) = some (some (.agg #[(.int .i64 0), (.slice none 0 0)]), 2, 32) := by kernel_rfl
theorem info61 : (Tryd.prog.info? 61).map (fun i => (i.zero, i.size, i.bytes)) = some (some (.agg #[(.int .i64 0), (.int .i64 0)]), 2, 16) := by kernel_rfl
structure S66 where
 f0 : Int
 f1 : Int
 f2 : Int
 f3 : Int
def z66 : S66 := ⟨(0 : Int), (0 : Int), (0 : Int), (0 : Int)⟩
def k66 : Kd S66 := Kd.iso (Kd.pair (Kd.int .i64) (Kd.pair (Kd.int .i64) (Kd.pair (Kd.int .i64) (Kd.int .i64)))) (fun x : S66 => (x.f0, x.f1, x.f2, x.f3))
theorem k66_open {w : World} {x : S66} {cs : List Value} (h : k66.K w x cs) : cs = [.int .i64 x.f0, .int .i64 x.f1, .int .i64 x.f2, .int .i64 x.f3] := by
 obtain ⟨_, _, rfl, rfl, ⟨_, _, rfl, rfl, ⟨_, _, rfl, rfl, rfl⟩⟩⟩ := h
 exact rfl
theorem k66_mkM (w : World) (base : Nat) (ok : Nat → Prop) (x : S66)  : k66.M w base ok x [.int .i64 x.f0, .int .i64 x.f1, .int .i64 x.f2, .int .i64 x.f3] := ⟨[.int .i64 x.f0], [.int .i64 x.f1, .int .i64 x.f2, .int .i64 x.f3], rfl, rfl, ⟨[.int .i64 x.f1], [.int .i64 x.f2, .int .i64 x.f3], rfl, rfl, ⟨[.int .i64 x.f2], [.int .i64 x.f3], rfl, rfl, rfl⟩⟩⟩
def rd_T66 (xs : List S66) (i : Int) : S66 := xs.getD i.toNat z66
theorem at_T66 {w : World} {A : Option Addr} {n : Nat} {xs : List S66} (h : Kd.C k66 w A n xs) (i : Int) (h0 : 0 ≤ i) (h1 : i < n) : ∃ ad , A = some ad ∧ w.cell? (ad.add (i.toNat * 4)) = some (.int .i64 (rd_T66 xs i).f0) ∧ w.cell? ⟨(ad.add (i.toNat * 4)).block, (ad.add (i.toNat * 4)).off + 1, none⟩ = some (.int .i64 (rd_T66 xs i).f1) ∧ w.cell? ⟨(ad.add (i.toNat * 4)).block, (ad.add (i.toNat * 4)).off + 2, none⟩ = some (.int .i64 (rd_T66 xs i).f2) ∧ w.cell? ⟨(ad.add (i.toNat * 4)).block, (ad.add (i.toNat * 4)).off + 3, none⟩ = some (.int .i64 (rd_T66 xs i).f3) := by
 obtain ⟨ad, c, e, _, hK, hc0⟩ := Kd.C_get h z66 i h0 h1
 have hc : ∀ j u, c[j]? = some u → w.cell? (ad.add (i.toNat * 4 + j)) = some u := hc0
 obtain rfl := k66_open hK
 exact ⟨ad, e, hc 0 _ rfl, by rw [← add_field _ _ 1 (by omega)]; exact hc 1 _ rfl, by rw [← add_field _ _ 2 (by omega)]; exact hc 2 _ rfl, by rw [← add_field _ _ 3 (by omega)]; exact hc 3 _ rfl⟩
def rd_L4 (xs : List (List Int)) (i : Int) : (List Int) := xs.getD i.toNat ([] : List Int)
theorem at_L4 {w : World} {A : Option Addr} {n : Nat} {xs : List (List Int)} (h : Kd.C (Kd.slice 3 (Kd.int .i64)) w A n xs) (i : Int) (h0 : 0 ≤ i) (h1 : i < n) : ∃ ad A0 c0, A = some ad ∧ w.cell? (ad.add i.toNat) = some (.slice A0 (rd_L4 xs i).length c0) ∧ (rd_L4 xs i).length ≤ c0 ∧ (Kd.int .i64).C w A0 (rd_L4 xs i).length (rd_L4 xs i) := by
 obtain ⟨ad, c, e, _, hK, hc0⟩ := Kd.C_get h ([] : List Int) i h0 h1
 have hc : ∀ j u, c[j]? = some u → w.cell? (ad.add (i.toNat * 1 + j)) = some u := hc0
 obtain ⟨A0, c0, rfl, l0, g0⟩ := hK
 exact ⟨ad, A0, c0, e, by have hq := hc 0 _ rfl; rwa [Nat.mul_one, Nat.add_zero] at hq, l0, g0⟩
structure S60 where
 f0 : Int
 f1 : (List Int)
def z60 : S60 := ⟨(0 : Int), ([] : List Int)⟩
def k60 : Kd S60 := Kd.iso (Kd.pair (Kd.int .i64) (Kd.slice 3 (Kd.int .i64))) (fun x : S60 => (x.f0, x.f1))
theorem k60_open {w : World} {x : S60} {cs : List Value} (h : k60.K w x cs) : ∃ A1 c1, cs = [.int .i64 x.f0, .slice A1 x.f1.length c1] ∧ x.f1.length ≤ c1 ∧ (Kd.int .i64).C w A1 x.f1.length x.f1 := by
 obtain ⟨_, _, rfl, rfl, ⟨A1, c1, rfl, l1, g1⟩⟩ := h
 exact ⟨A1, c1, rfl, l1, g1⟩
theorem k60_mk (w : World) (x : S60) {A1 : Option Addr} {c1 : Nat} (l1 : x.f1.length ≤ c1) (g1 : (Kd.int .i64).C w A1 x.f1.length x.f1) : k60.K w x [.int .i64 x.f0, .slice A1 x.f1.length c1] := ⟨[.int .i64 x.f0], [.slice A1 x.f1.length c1], rfl, rfl, ⟨A1, c1, rfl, l1, g1⟩⟩
theorem k60_mkF (W : World) (ok : Nat → Prop) (x : S60) {A1 : Option Addr} {c1 : Nat} (l1 : x.f1.length ≤ c1) (g1 : Kd.F (Kd.int .i64) W ok A1 x.f1.length x.f1) : Kd.FK k60 W ok x [.int .i64 x.f0, .slice A1 x.f1.length c1] := fun W2 hW => k60_mk W2 x l1 (g1 W2 hW)
def rd_T60 (xs : List S60) (i : Int) : S60 := xs.getD i.toNat z60
theorem at_T60 {w : World} {A : Option Addr} {n : Nat} {xs : List S60} (h : Kd.C k60 w A n xs) (i : Int) (h0 : 0 ≤ i) (h1 : i < n) : ∃ ad A1 c1, A = some ad ∧ w.cell? (ad.add (i.toNat * 2)) = some (.int .i64 (rd_T60 xs i).f0) ∧ w.cell? ⟨(ad.add (i.toNat * 2)).block, (ad.add (i.toNat * 2)).off + 1, none⟩ = some (.slice A1 (rd_T60 xs i).f1.length c1) ∧ (rd_T60 xs i).f1.length ≤ c1 ∧ (Kd.int .i64).C w A1 (rd_T60 xs i).f1.length (rd_T60 xs i).f1 := by
 obtain ⟨ad, c, e, _, hK, hc0⟩ := Kd.C_get h z60 i h0 h1
 have hc : ∀ j u, c[j]? = some u → w.cell? (ad.add (i.toNat * 2 + j)) = some u := hc0
 obtain ⟨A1, c1, rfl, l1, g1⟩ := k60_open hK
 exact ⟨ad, A1, c1, e, hc 0 _ rfl, by rw [← add_field _ _ 1 (by omega)]; exact hc 1 _ rfl, l1, g1⟩
structure S61 where
 f0 : Int
 f1 : Int
def z61 : S61 := ⟨(0 : Int), (0 : Int)⟩
def k61 : Kd S61 := Kd.iso (Kd.pair (Kd.int .i64) (Kd.int .i64)) (fun x : S61 => (x.f0, x.f1))
theorem k61_open {w : World} {x : S61} {cs : List Value} (h : k61.K w x cs) : cs = [.int .i64 x.f0, .int .i64 x.f1] := by
 obtain ⟨_, _, rfl, rfl, rfl⟩ := h
 exact rfl
theorem k61_mk (w : World) (x : S61)  : k61.K w x [.int .i64 x.f0, .int .i64 x.f1] := ⟨[.int .i64 x.f0], [.int .i64 x.f1], rfl, rfl, rfl⟩
theorem k61_mkM (w : World) (base : Nat) (ok : Nat → Prop) (x : S61)  : k61.M w base ok x [.int .i64 x.f0, .int .i64 x.f1] := ⟨[.int .i64 x.f0], [.int .i64 x.f1], rfl, rfl, rfl⟩
def rd_T61 (xs : List S61) (i : Int) : S61 := xs.getD i.toNat z61
theorem at_T61 {w : World} {A : Option Addr} {n : Nat} {xs : List S61} (h : Kd.C k61 w A n xs) (i : Int) (h0 : 0 ≤ i) (h1 : i < n) : ∃ ad , A = some ad ∧ w.cell? (ad.add (i.toNat * 2)) = some (.int .i64 (rd_T61 xs i).f0) ∧ w.cell? ⟨(ad.add (i.toNat * 2)).block, (ad.add (i.toNat * 2)).off + 1, none⟩ = some (.int .i64 (rd_T61 xs i).f1) := by
 obtain ⟨ad, c, e, _, hK, hc0⟩ := Kd.C_get h z61 i h0 h1
 have hc : ∀ j u, c[j]? = some u → w.cell? (ad.add (i.toNat * 2 + j)) = some u := hc0
 obtain rfl := k61_open hK
 exact ⟨ad, e, hc 0 _ rfl, by rw [← add_field _ _ 1 (by omega)]; exact hc 1 _ rfl⟩
def rd_L9 (xs : List (List S61)) (i : Int) : (List S61) := xs.getD i.toNat ([] : List S61)
theorem at_L9 {w : World} {A : Option Addr} {n : Nat} {xs : List (List S61)} (h : Kd.C (Kd.slice 61 k61) w A n xs) (i : Int) (h0 : 0 ≤ i) (h1 : i < n) : ∃ ad A0 c0, A = some ad ∧ w.cell? (ad.add i.toNat) = some (.slice A0 (rd_L9 xs i).length c0) ∧ (rd_L9 xs i).length ≤ c0 ∧ k61.C w A0 (rd_L9 xs i).length (rd_L9 xs i) := by
 obtain ⟨ad, c, e, _, hK, hc0⟩ := Kd.C_get h ([] : List S61) i h0 h1
 have hc : ∀ j u, c[j]? = some u → w.cell? (ad.add (i.toNat * 1 + j)) = some u := hc0
 obtain ⟨A0, c0, rfl, l0, g0⟩ := hK
 exact ⟨ad, A0, c0, e, by have hq := hc 0 _ rfl; rwa [Nat.mul_one, Nat.add_zero] at hq, l0, g0⟩
end Go.Proofs.YtagkfkdoibnhfaaDoor.H
end
section
namespace Go.Proofs.YtagkfkdoibnhfaaDoor.K
open Go.Proofs.YtagkfkdoibnhfaaDoor.H
theorem tmod_zero (a b : Int) : Int.tmod a b = 0 ↔ a % b = 0 := by
 rw [← Int.dvd_iff_tmod_eq_zero, Int.dvd_iff_emod_eq_zero]
def irange (lo hi : Int) : List Int := (List.range (hi + 1 - lo).toNat).map fun i : Nat => lo + (i : Int)
def okReg (m : Int) (x : S66) : Bool :=
 decide (0 ≤ x.f0) && decide (x.f0 ≤ 4) && decide (0 ≤ x.f1) && decide (x.f1 ≤ x.f2) && decide (0 ≤ x.f2) && decide (x.f2 ≤ m - 1) && decide (-6 ≤ x.f3) && decide (x.f3 ≤ 6)
def okScale (T O L : Int) (R : List S66) : Bool :=
 decide (2 ≤ T) && decide (T ≤ 7) && decide (1 ≤ O) && decide (O ≤ 3) && decide (2 ≤ L) && decide (L ≤ 16) && decide (L % 2 = 0) && decide (1 ≤ R.length) && decide (R.length ≤ 5) && R.all (okReg (T * O))
def plays (T : Int) (x : S66) (n : Int) : Int :=
 if x.f1 ≤ n ∧ n ≤ x.f2 then n else ((irange x.f1 x.f2).find? fun t => decide ((t - n) % T = 0)).getD (-1)
def bar (x : S66) (a b : Int) : List Int :=
 if x.f0 = 0 then [b] else if x.f0 = 1 then [a, b] else if x.f0 = 2 then [a, a, b, b] else if x.f0 = 3 then [a, b, a, b] else [a + x.f3, a, b + x.f3, b]
def regAt (R : List S66) (r : Int) : S66 := R.getD r.toNat z66
def strokes (T : Int) (R : List S66) (r a b : Int) : List Int := (bar (regAt R r) a b).map (plays T (regAt R r))
def partOf (T : Int) (R : List S66) (r : Int) : List Int → List Int
 | a :: b :: rest => strokes T R r a b ++ partOf T R r rest
 | _ => []
def okPart (T O L : Int) (R : List S66) (tones : List Int) (r : Int) : Bool :=
 decide ((tones.length : Int) = L) && decide (0 ≤ r) && decide (r < R.length) && tones.all fun t => decide (0 ≤ t) && decide (t < T * O)
def Part (T O L : Int) (R : List S66) (tones : List Int) (r : Int) : List Int × Int :=
 if okScale T O L R then if okPart T O L R tones r then (partOf T R r tones, 0) else ([], 61) else ([], 60)
def width (x : S66) : Nat := if x.f0 = 0 then 1 else if x.f0 = 1 then 2 else 4
def okHeard1 (L : Int) (R : List S66) (h : S60) : Bool :=
 decide (0 ≤ h.f0) && decide (h.f0 < R.length) && decide ((h.f1.length : Int) = L / 2 * (width (regAt R h.f0) : Int)) && h.f1.all fun n => decide (-2 ≤ n) && decide (n ≤ 40)
def okHeard (L : Int) (R : List S66) (hs : List S60) : Bool := decide (1 ≤ hs.length) && decide (hs.length ≤ 5) && hs.all (okHeard1 L R)
def missOf (was l : List Int) : Nat := (List.range l.length).countP fun k => decide (was.getD k 0 ≠ -2) && decide (was.getD k 0 ≠ l.getD k 0)
def miss (T : Int) (R : List S66) (hs : List S60) (place a b : Int) : Nat :=
 (hs.map fun h => missOf (h.f1.drop (place.toNat * width (regAt R h.f0))) (strokes T R h.f0 a b)).sum
def pairsOf (m : Int) : List (Int × Int) := (irange 0 (m - 1)).flatMap fun a => (irange 0 (m - 1)).map fun b => (a, b)
def choices (T O : Int) (R : List S66) (hs : List S60) (place : Int) : List (Int × Int) := (pairsOf (T * O)).filter fun p => decide (miss T R hs place p.1 p.2 = 0)
def canAll (T O L : Int) (R : List S66) (hs : List S60) : Bool := (irange 0 (L / 2 - 1)).all fun place => !(choices T O R hs place).isEmpty
def manyOf (T O L : Int) (R : List S66) (hs : List S60) : Int :=
 (irange 0 (L / 2 - 1)).foldl (fun n place => min 1000000 (n * ((choices T O R hs place).length : Int))) 1
def Many (T O L : Int) (R : List S66) (hs : List S60) : Int × Int :=
 if okScale T O L R then if okHeard L R hs then (if canAll T O L R hs then manyOf T O L R hs else 0, 0) else (0, 61) else (0, 60)
def askedErr (T O L : Int) (R : List S66) (hs : List S60) (right : Bool) : Int :=
 if okScale T O L R then if okHeard L R hs then if right then if canAll T O L R hs then 0 else 62 else 61 else 61 else 60
def side (p : Int × Int) (place : Int) : Int := if place % 2 = 0 then p.1 else p.2
def canOf (T O : Int) (R : List S66) (hs : List S60) (place : Int) : List Int :=
 (irange 0 (T * O - 1)).filter fun t => (choices T O R hs (place / 2)).any fun p => decide (side p place = t)
def Can (T O L : Int) (R : List S66) (hs : List S60) (place : Int) : List Int × Int :=
 if askedErr T O L R hs (decide (0 ≤ place) && decide (place < L)) = 0 then (canOf T O R hs place, 0) else ([], askedErr T O L R hs (decide (0 ≤ place) && decide (place < L)))
def severalAt (T O : Int) (R : List S66) (hs : List S60) (place : Int) : Bool := decide (1 < (choices T O R hs place).length)
def wonOf (T O L : Int) (R : List S66) (hs : List S60) : List Int :=
 (irange 0 (L / 2 - 1)).flatMap fun place => match choices T O R hs place with | [] => [0, 0] | p :: _ => [p.1, p.2]
def Won (T O L : Int) (R : List S66) (hs : List S60) : List Int × Int :=
 if askedErr T O L R hs true = 0 then if (irange 0 (L / 2 - 1)).any (severalAt T O R hs) then ([], 63) else (wonOf T O L R hs, 0) else ([], askedErr T O L R hs true)
def known (T : Int) (R : List S66) (r : Int) (l : List (Int × Int)) (k : Nat) : Option Int :=
 match l with
 | [] => none
 | p :: rest => if rest.all fun q => decide ((strokes T R r q.1 q.2).getD k 0 = (strokes T R r p.1 p.2).getD k 0) then some ((strokes T R r p.1 p.2).getD k 0) else none
def fillOf (T O : Int) (R : List S66) (hs : List S60) (h : S60) : List Int :=
 (List.range h.f1.length).map fun at_ =>
  if h.f1.getD at_ 0 = -2 then (known T R h.f0 (choices T O R hs ((at_ / width (regAt R h.f0) : Nat) : Int)) (at_ % width (regAt R h.f0))).getD (-2) else h.f1.getD at_ 0
def Filled (T O L : Int) (R : List S66) (hs : List S60) : List (List Int) × Int :=
 if askedErr T O L R hs true = 0 then (hs.map (fillOf T O R hs), 0) else ([], askedErr T O L R hs true)
def leastAt (T O : Int) (R : List S66) (hs : List S60) (place : Int) : Int :=
 (pairsOf (T * O)).foldl (fun n p => min n (miss T R hs place p.1 p.2 : Int)) (miss T R hs place 0 0 : Int)
def leastOf (T O L : Int) (R : List S66) (hs : List S60) : Int := ((irange 0 (L / 2 - 1)).map (leastAt T O R hs)).sum
def Least (T O L : Int) (R : List S66) (hs : List S60) : Int × Int :=
 if okScale T O L R then if okHeard L R hs then (leastOf T O L R hs, 0) else (0, 61) else (0, 60)
def both (T : Int) (R : List S66) (one other : Int) (p : Int × Int) : List Int := strokes T R one p.1 p.2 ++ strokes T R other p.1 p.2
def twinsOf (f : Int × Int → List Int) : List (Int × Int) → List (Int × Int) → Option ((Int × Int) × (Int × Int))
 | _, [] => none
 | met, p :: rest => match met.find? fun q => f q == f p with
  | some q => some (q, p)
  | none => twinsOf f (met ++ [p]) rest
def twins (T O : Int) (R : List S66) (one other : Int) : Option ((Int × Int) × (Int × Int)) := twinsOf (both T R one other) [] (pairsOf (T * O))
def registerPairs (n : Nat) : List (Nat × Nat) := (List.range n).flatMap fun i => (List.range (n - (i + 1))).map fun k => (i, i + 1 + k)
def Pairs (T O L : Int) (R : List S66) : List S61 × Int :=
 if okScale T O L R then (((registerPairs R.length).filter fun p => (twins T O R (p.1 : Int) (p.2 : Int)).isNone).map fun p => ⟨(p.1 : Int), (p.2 : Int)⟩, 0) else ([], 60)
def times (n : Nat) (p : Int × Int) : List Int := (List.range n).flatMap fun _ => [p.1, p.2]
def Twins (T O L : Int) (R : List S66) (one other : Int) : List Int × List Int × Int :=
 if okScale T O L R then
  if 0 ≤ one ∧ one < R.length ∧ 0 ≤ other ∧ other < R.length then
   match twins T O R one other with
   | none => ([], [], 4)
   | some (p, q) => (times (L / 2).toNat p, q.1 :: q.2 :: times ((L / 2).toNat - 1) p, 0)
  else ([], [], 61)
 else ([], [], 60)
end Go.Proofs.YtagkfkdoibnhfaaDoor.K
end
section
namespace Go.Proofs.YtagkfkdoibnhfaaDoor.K
open Go.RowKit
def Glob (w : World) : Prop := 0 < w.heap.size ∧ ∀ i, i < 5 → w.cell? ⟨0, i, none⟩ = some (.func (.func (107 + i)) #[] #[])
theorem Glob.below {w w' : World} (h : Glob w) (hb : Below w.heap.size w w') : Glob w' :=
 ⟨Nat.lt_of_lt_of_le h.1 hb.size, fun i hi => (hb.cell (p := ⟨0, i, none⟩) h.1).trans (h.2 i hi)⟩
end Go.Proofs.YtagkfkdoibnhfaaDoor.K
end
section
namespace Go.Proofs.YtagkfkdoibnhfaaDoor.K
open Go.RowKit
structure KeyEnc (P : Program) (k : TypeId) (α : Type) [DecidableEq α] where
 enc : α → Value
 eq : ∀ a b w, (Op.equal k (enc a) (enc b)).run P w = .ok (decide (a = b)) w
 check : ∀ empty a w, (Instr.checkKey empty 10000 k (enc a)).run P w = .ok () w
 bits : ∀ a, Instr.sameBits 10000 (enc a) (enc a) = true
 now : ∀ a b, ∃ d, P.underlying k = some d ∧ (Instr.sameNow d (enc a) (enc b) = none ∨ Instr.sameNow d (enc a) (enc b) = some (decide (a = b)))
def kvSet {α β : Type} [DecidableEq α] (a : α) (b : β) : List (α × β) → List (α × β)
 | [] => [(a, b)]
 | (x, y) :: r => if a = x then (a, b) :: r else (x, y) :: kvSet a b r
theorem kvSet_mem {α β : Type} [DecidableEq α] {a : α} {b : β} : ∀ {kv : List (α × β)} {p : α × β}, p ∈ kvSet a b kv → p = (a, b) ∨ p ∈ kv
 | [], p, h => by simp [kvSet] at h; exact .inl h
 | (x, y) :: r, p, h => by
  unfold kvSet at h
  split at h
  ·rcases List.mem_cons.1 h with h | h
   ·exact .inl h
   ·exact .inr (List.mem_cons_of_mem _ h)
  ·rcases List.mem_cons.1 h with h | h
   ·exact .inr (h ▸ List.mem_cons_self)
   ·rcases kvSet_mem h with h | h
    ·exact .inl h
    ·exact .inr (List.mem_cons_of_mem _ h)
theorem kvSet_new {α β : Type} [DecidableEq α] {a : α} {b : β} : ∀ {kv : List (α × β)}, kv.find? (fun p => decide (a = p.1)) = none → kvSet a b kv = kv ++ [(a, b)]
 | [], _ => rfl
 | (x, y) :: r, h => by
  simp only [List.find?_cons] at h
  split at h
  ·cases h
  ·rename_i hx
   have hx' : ¬ a = x := by simpa using hx
   simp [kvSet, hx', kvSet_new h]
section
variable {P : Program} {k : TypeId} {α β : Type} [DecidableEq α] (E : KeyEnc P k α) (V : β → Value)
def MapIs (w : World) (m : Nat) (kv : List (α × β)) : Prop :=
 ∃ es clock, w.heap[m]? = some (.map es clock) ∧ es.toList.map (fun e => (e.key, e.val)) = kv.map (fun p => (E.enc p.1, V p.2))
variable {E V}
theorem MapIs.lt {w : World} {m : Nat} {kv : List (α × β)} (h : MapIs E V w m kv) : m < w.heap.size := by
 obtain ⟨es, c, hb, _⟩ := h
 exact (Array.getElem?_eq_some_iff.1 hb).1
theorem MapIs.move {w w' : World} {m : Nat} {kv : List (α × β)} (h : MapIs E V w m kv) (e : w'.heap[m]? = w.heap[m]?) : MapIs E V w' m kv := by
 obtain ⟨es, c, hb, hk⟩ := h
 exact ⟨es, c, e.trans hb, hk⟩
theorem MapIs.below {w w' : World} {m : Nat} {kv : List (α × β)} (h : MapIs E V w m kv) (hb : Below w.heap.size w w') : MapIs E V w' m kv := h.move (hb.block m h.lt)
theorem MapIs.alloc {w : World} {m : Nat} {kv : List (α × β)} (h : MapIs E V w m kv) (o : Obj) : MapIs E V (w.alloc o) m kv := h.below ((Below.refl _ _).alloc (Nat.le_refl _) _)
theorem MapIs.no_cells {w : World} {m : Nat} {kv : List (α × β)} (h : MapIs E V w m kv) {c : Array Value} {t : TypeId} {f : Nat × Nat} (hc : w.heap[m]? = some (.cells c t f)) : False := by
 obtain ⟨es, _, hb, _⟩ := h
 rw [hb] at hc
 cases hc
theorem MapIs.new (w : World) : MapIs E V (w.alloc (.map #[] 0)) w.heap.size [] := ⟨#[], 0, (MapKept.heap_alloc w _).1, rfl⟩
def kvFind (a : α) : List (α × β) → Nat → Option (Nat × β)
 | [], _ => none
 | (x, y) :: r, i => if a = x then some (i, y) else kvFind a r (i + 1)
theorem kvFind_find (a : α) : ∀ (kv : List (α × β)) (i : Nat), (kvFind a kv i).map (·.2) = (kv.find? fun p => decide (a = p.1)).map (·.2)
 | [], _ => rfl
 | (x, y) :: r, i => by
  by_cases h : a = x
  ·simp [kvFind, h]
  ·simp [kvFind, h, kvFind_find a r (i + 1)]
theorem kvFind_lt (a : α) : ∀ (kv : List (α × β)) (i j : Nat) (y : β), kvFind a kv i = some (j, y) → i ≤ j ∧ ∃ x, kv[j - i]? = some (x, y) ∧ a = x
 | [], _, _, _, h => by simp [kvFind] at h
 | (x, y) :: r, i, j, z, h => by
  unfold kvFind at h
  split at h
  ·rename_i hx
   simp at h
   obtain ⟨rfl, rfl⟩ := h
   exact ⟨Nat.le_refl _, x, by simp, hx⟩
  ·obtain ⟨h1, x', h2, h3⟩ := kvFind_lt a r (i + 1) j z h
   refine ⟨by omega, x', ?_, h3⟩
   rw [show j - i = (j - (i + 1)) + 1 from by omega]
   simpa using h2
theorem findAsking_run (a : α) (w : World) : ∀ (es : List MapEntry) (kv : List (α × β)) (i : Nat), es.map (fun e => (e.key, e.val)) = kv.map (fun p => (E.enc p.1, V p.2)) →
  (Instr.findAsking k (E.enc a) es i).run P w = .ok ((kvFind a kv i).map fun r => (r.1, V r.2)) w
 | [], [], _, _ => by simp [Instr.findAsking, kvFind]
 | e :: es, [], _, h => by simp at h
 | [], p :: kv, _, h => by simp at h
 | e :: es, (x, y) :: kv, i, h => by
  simp only [List.map_cons, List.cons.injEq, Prod.mk.injEq] at h
  obtain ⟨⟨h1, h2⟩, h3⟩ := h
  have ih := findAsking_run a w es kv (i + 1) h3
  by_cases hx : a = x
  ·simp [Instr.findAsking, h1, E.eq, hx, kvFind, h2]
  ·simp [Instr.findAsking, h1, E.eq, hx, kvFind, ih]
theorem findNow_run (a : α) {d : TypeDesc} (hd : P.underlying k = some d) : ∀ (es : List MapEntry) (kv : List (α × β)) (i : Nat), es.map (fun e => (e.key, e.val)) = kv.map (fun p => (E.enc p.1, V p.2)) →
  Instr.findNow d (E.enc a) es i = none ∨ Instr.findNow d (E.enc a) es i = some ((kvFind a kv i).map fun r => (r.1, V r.2))
 | [], [], _, _ => .inr (by simp [Instr.findNow, kvFind])
 | e :: es, [], _, h => by simp at h
 | [], p :: kv, _, h => by simp at h
 | e :: es, (x, y) :: kv, i, h => by
  simp only [List.map_cons, List.cons.injEq, Prod.mk.injEq] at h
  obtain ⟨⟨h1, h2⟩, h3⟩ := h
  have ih := findNow_run a hd es kv (i + 1) h3
  obtain ⟨d', hd', hn⟩ := E.now a x
  obtain rfl : d' = d := Option.some.inj (hd'.symm.trans hd)
  rcases hn with hn | hn
  ·exact .inl (by simp [Instr.findNow, h1, hn])
  ·by_cases hx : a = x
   ·exact .inr (by simp only [Instr.findNow, h1, hn]; simp [hx, kvFind, h2])
   ·rcases ih with ih | ih
    ·exact .inl (by simp only [Instr.findNow, h1, hn]; simp [hx, ih])
    ·exact .inr (by simp only [Instr.findNow, h1, hn]; simp [hx, kvFind, ih])
theorem findKey_run (a : α) (w : World) {es : List MapEntry} {kv : List (α × β)} (h : es.map (fun e => (e.key, e.val)) = kv.map (fun p => (E.enc p.1, V p.2))) :
  (Instr.findKey k (E.enc a) es).run P w = .ok ((kvFind a kv 0).map fun r => (r.1, V r.2)) w := by
 obtain ⟨d, hd, _⟩ := E.now a a
 unfold Instr.findKey
 rw [Sem.run_bind, run_underlying hd]
 simp only [Result.andThen_ok]
 rcases findNow_run (E := E) (V := V) a hd es kv 0 h with e | e
 ·rw [e]; exact findAsking_run a w es kv 0 h
 ·rw [e]; simp
def kvGet (V : β → Value) (z : Value) (kv : List (α × β)) (a : α) : Value × Bool :=
 match kv.find? fun p => decide (a = p.1) with
 | some p => (V p.2, true)
 | none => (z, false)
theorem MapIs.lookup {w : World} {m : Nat} {kv : List (α × β)} {t e : TypeId} {z : Value} (h : MapIs E V w m kv) (ht : P.underlying t = some (.map k e)) (hz : (zeroValue e).run P w = .ok z w) (a : α) (ok : Bool) :
  (Instr.lookup t (.map (some m)) (E.enc a) ok).run P w = .ok (if ok then .tuple #[(kvGet V z kv a).1, .bool (kvGet V z kv a).2] else (kvGet V z kv a).1) w := by
 obtain ⟨es, c, hb, hk⟩ := h
 have hf := findKey_run (E := E) (V := V) a w hk
 have hg : (getObj m).run P w = .ok (.map es c) w := by simp [getObj, Sem.run, hb]
 have e1 := kvFind_find a kv 0
 simp only [Instr.lookup, Sem.run_bind, run_underlying ht, Result.andThen_ok, hg, Sem.run_pure, E.check, hf]
 unfold kvGet
 cases hq : kvFind a kv 0 with
 | none =>
  rw [hq] at e1
  cases hp : kv.find? fun p => decide (a = p.1) with
  | none => simp [hz]
  | some p => rw [hp] at e1; simp at e1
 | some r =>
  rw [hq] at e1
  cases hp : kv.find? fun p => decide (a = p.1) with
  | none => rw [hp] at e1; simp at e1
  | some p =>
   rw [hp] at e1
   simp at e1
   simp [e1]
theorem kvSet_modify (a : α) (b : β) : ∀ (kv : List (α × β)) (i j : Nat) (y : β) (es : List MapEntry), kvFind a kv i = some (j, y) → es.map (fun e => (e.key, e.val)) = kv.map (fun p => (E.enc p.1, V p.2)) →
  (es.modify (j - i) fun e => { e with key := E.enc a, val := V b }).map (fun e => (e.key, e.val)) = (kvSet a b kv).map (fun p => (E.enc p.1, V p.2))
 | [], _, _, _, _, h, _ => by simp [kvFind] at h
 | (x, z) :: r, i, j, y, [], h, hk => by simp at hk
 | (x, z) :: r, i, j, y, e :: es, h, hk => by
  simp only [List.map_cons, List.cons.injEq, Prod.mk.injEq] at hk
  obtain ⟨⟨h1, h2⟩, h3⟩ := hk
  unfold kvFind at h
  split at h
  ·rename_i hx
   simp at h
   obtain ⟨rfl, rfl⟩ := h
   simp [kvSet, hx, h3]
  ·rename_i hx
   have hl := (kvFind_lt a r (i + 1) j y h).1
   have ih := kvSet_modify a b r (i + 1) j y es h h3
   rw [show j - i = (j - (i + 1)) + 1 from by omega]
   simp [kvSet, hx, h1, h2, ih]
theorem MapIs.update {w : World} {m : Nat} {kv : List (α × β)} {t e : TypeId} (h : MapIs E V w m kv) (ht : P.underlying t = some (.map k e)) (a : α) (b : β) :
  ∃ w', (Instr.mapUpdate t (.map (some m)) (E.enc a) (V b)).run P w = .ok () w' ∧ MapIs E V w' m (kvSet a b kv) ∧ w.grownBy w' (some m) := by
 have hm := h.lt
 obtain ⟨es, c, hb, hk⟩ := h
 have hf := findKey_run (E := E) (V := V) a w hk
 have hg : (getObj m).run P w = .ok (.map es c) w := by simp [getObj, Sem.run, hb]
 have hs : ∀ o, (setObj m o).run P w = .ok () (w.putObj m o) := fun o => by simp [setObj, Sem.run, hb, World.putObj]
 have hG : ∀ o, w.grownBy (w.putObj m o) (some m) := fun o => grownBy_putObj' w m o
 cases hq : kvFind a kv 0 with
 | none =>
  refine ⟨w.putObj m (.map (es.push { key := E.enc a, val := V b, born := c }) (c + 1)), ?_, ⟨_, _, World.putObj_heap_same hm, ?_⟩, hG _⟩
  ·rw [hq] at hf
   simp only [Instr.mapUpdate, Sem.run_bind, run_underlying ht, Result.andThen_ok, hg, E.check, hf]
   simp [hs]
  ·have hn : kv.find? (fun p => decide (a = p.1)) = none := by
    have := kvFind_find a kv 0
    rw [hq] at this
    cases hp : kv.find? fun p => decide (a = p.1) with
    | none => rfl
    | some p => rw [hp] at this; simp at this
   rw [kvSet_new hn]
   simp [hk]
 | some r =>
  obtain ⟨j, y⟩ := r
  obtain ⟨_, x, hx1, rfl⟩ := kvFind_lt a kv 0 j y hq
  have hm' := kvSet_modify (E := E) (V := V) a b kv 0 j y es.toList hq hk
  have hjx : (es.toList.map (fun e => (e.key, e.val)))[j]? = some (E.enc a, V y) := by rw [hk]; simp at hx1; simp [hx1]
  have hj : ∃ e0, es[j]? = some e0 ∧ e0.key = E.enc a := by
   rw [List.getElem?_map] at hjx
   cases h0 : es.toList[j]? with
   | none => rw [h0] at hjx; simp at hjx
   | some e0 => rw [h0] at hjx; simp at hjx; exact ⟨e0, by simpa using h0, hjx.1⟩
  obtain ⟨e0, he0, hk0⟩ := hj
  refine ⟨w.putObj m (.map (es.modify j fun e => { e with key := E.enc a, val := V b }) c), ?_, ⟨_, _, World.putObj_heap_same hm, ?_⟩, hG _⟩
  ·rw [hq] at hf
   simp only [Instr.mapUpdate, Sem.run_bind, run_underlying ht, Result.andThen_ok, hg, E.check, hf]
   simp [he0, hk0, Instr.keyThatStays, E.bits, hs]
  ·rw [Array.toList_modify]
   simpa using hm'
section
variable {F : Fence} {nF : Nat} {w : World} {m : Nat} {kv : List (α × β)} {t e : TypeId} {ops : Array Oper} {rest : List Oper} {o : Oper} {a : Act} {Q : Exit → Act → World → Prop}
theorem wpList_update (E : KeyEnc P k α) (V : β → Value) (hg : o.guard = none) (mo x v : Operand) (hop : o.op = Op.mapUpdate t mo x v) (ht : P.underlying t = some (.map k e)) (hm : a.eval mo = .map (some m))
  (h : MapIs E V w m kv) (key : α) (b : β) (hx : a.eval x = E.enc key) (hv : a.eval v = V b)
  (hK : ∀ w', MapIs E V w' m (kvSet key b kv) → w.grownBy w' (some m) → wpList P ops Q rest (a.put o.dst undef) w') : wpList P ops Q (o :: rest) a w := by
 refine wpList_plain hg fun K' hK' => ?_
 obtain ⟨w', hrun, r1, r2⟩ := h.update ht key b
 unfold Oper.wp
 simp [execOp, hop, hm, hx, hv, hrun, Result.andThen]
 exact hK' _ _ (hK w' r1 r2)
theorem wpListIn_update (E : KeyEnc P k α) (V : β → Value) (hg : o.guard = none) (mo x v : Operand) (hop : o.op = Op.mapUpdate t mo x v) (ht : P.underlying t = some (.map k e)) (hm : a.eval mo = .map (some m))
  (h : MapIs E V w m kv) (key : α) (b : β) (hx : a.eval x = E.enc key) (hv : a.eval v = V b)
  (hK : ∀ w', MapIs E V w' m (kvSet key b kv) → w.grownBy w' (some m) → wpListIn F nF P ops Q rest (a.put o.dst undef) w') : wpListIn F nF P ops Q (o :: rest) a w := by
 refine wpListIn_plain hg fun K' hK' => ?_
 obtain ⟨w', hrun, r1, r2⟩ := h.update ht key b
 unfold Oper.wpIn
 refine ⟨by simp [Oper.about, hop], ?_⟩
 rw [Oper.semAt_plain F _ _ (by rw [hop]; intro c hc'; cases hc')]
 simp [execOp, hop, hm, hx, hv, hrun, Result.andThen]
 exact hK' _ _ (hK w' r1 r2)
theorem wpList_look (E : KeyEnc P k α) (V : β → Value) (hg : o.guard = none) (mo x : Operand) (ok : Bool) (hop : o.op = Op.lookup t mo x ok) (ht : P.underlying t = some (.map k e)) (hm : a.eval mo = .map (some m))
  (h : MapIs E V w m kv) (z : Value) (hz : (zeroValue e).run P w = .ok z w) (key : α) (hx : a.eval x = E.enc key)
  (hK : wpList P ops Q rest (a.put o.dst (if ok then .tuple #[(kvGet V z kv key).1, .bool (kvGet V z kv key).2] else (kvGet V z kv key).1)) w) : wpList P ops Q (o :: rest) a w := by
 refine wpList_plain hg fun K' hK' => ?_
 have hrun := h.lookup ht hz key ok
 unfold Oper.wp
 simp only [execOp, hop, hm, hx, Sem.run_bind, hrun, Result.andThen_ok, Sem.run_pure, Oper.upon_value]
 exact hK' _ _ hK
theorem wpListIn_look (E : KeyEnc P k α) (V : β → Value) (hg : o.guard = none) (mo x : Operand) (ok : Bool) (hop : o.op = Op.lookup t mo x ok) (ht : P.underlying t = some (.map k e)) (hm : a.eval mo = .map (some m))
  (h : MapIs E V w m kv) (z : Value) (hz : (zeroValue e).run P w = .ok z w) (key : α) (hx : a.eval x = E.enc key)
  (hK : wpListIn F nF P ops Q rest (a.put o.dst (if ok then .tuple #[(kvGet V z kv key).1, .bool (kvGet V z kv key).2] else (kvGet V z kv key).1)) w) : wpListIn F nF P ops Q (o :: rest) a w := by
 refine wpListIn_plain hg fun K' hK' => ?_
 have hrun := h.lookup ht hz key ok
 unfold Oper.wpIn
 refine ⟨by simp [Oper.about, hop], ?_⟩
 rw [Oper.semAt_plain F _ _ (by rw [hop]; intro c hc'; cases hc')]
 simp only [execOp, hop, hm, hx, Sem.run_bind, hrun, Result.andThen_ok, Sem.run_pure, Oper.uponIn_value]
 exact hK' _ _ hK
end
end
end Go.Proofs.YtagkfkdoibnhfaaDoor.K
end
section
namespace Go.Proofs.YtagkfkdoibnhfaaDoor.H
open Go.RowKit Go.Proofs.YtagkfkdoibnhfaaDoorW.PrintWords Go.Proofs.YtagkfkdoibnhfaaDoorW.PrintLast Go.Proofs.YtagkfkdoibnhfaaDoorW.PrintMore
attribute [local go_sem] max2_int min2_int max_two min_two max_three min_three max_four min_four   -- for this text's walks alone
set_option linter.unusedVariables false
set_option linter.unusedSimpArgs false
def kernel_in.f (a0 : Int) (a1 : Int) (a2 : Int) : Option (Bool) := if a1 ≤ a0 then (some (decide (a0 ≤ a2))) else (some false)
set_option maxHeartbeats 8000000 in
set_option maxRecDepth 100000 in
theorem kernel_in.calls (a0 : Int) (a1 : Int) (a2 : Int) (r : Bool) (w : World) (h : kernel_in.f a0 a1 a2 = some r) :
  Calls Tryd.prog 55 #[.int .i64 a0, .int .i64 a1, .int .i64 a2] w fun e w' => e = .returned (.bool r) ∧ Drawn0 w w' := by
 have H : (if a1 ≤ a0 then (some (decide (a0 ≤ a2))) else (some false)) = some r := h
 clear h
 by_cases c4 : a1 ≤ a0
 ·rw [if_pos c4] at H
  have c4b0 : decide (a1 ≤ a0) = true := decide_eq_true c4
  clear c4
  obtain rfl := Option.some.inj H
  go_enter Tryd.func55, Tryd.ntmps55
  go_wp2
  go_ret
  exact ⟨ze, by repeat (first | exact Drawn0.refl _ | apply Drawn0.step)⟩
 ·rw [if_neg c4] at H
  have c4b0 : decide (a1 ≤ a0) = false := decide_eq_false c4
  clear c4
  obtain rfl := Option.some.inj H
  go_enter Tryd.func55, Tryd.ntmps55
  go_wp2
  go_ret
  exact ⟨ze, by repeat (first | exact Drawn0.refl _ | apply Drawn0.step)⟩
end Go.Proofs.YtagkfkdoibnhfaaDoor.H
end
section
namespace Go.Proofs.YtagkfkdoibnhfaaDoor.K
open Go.RowKit Go.Proofs.YtagkfkdoibnhfaaDoorW.PrintWords Go.Proofs.YtagkfkdoibnhfaaDoor.H
set_option linter.unusedVariables false
set_option linter.unusedSimpArgs false
theorem R_lit_new {w : World} {base g : Nat} {xs : List Int} {cs : Array Value} (hc : cs.toList = nums .i64 xs) (h : w.heap[g]? = some (.cells cs 3 (0, 0))) (hg : base ≤ g) (hn : xs.length ≤ maxLen) {n : Nat} (hxs : xs.length = n) :
  Kd.R (Kd.int .i64) 3 w base (fun _ => True) (.slice (some ⟨g, 0, none⟩) n n) xs := by
 subst hxs
 refine Kd.R_of_own ⟨by simp [encs], .inr ⟨g, xs.length, cs, rfl, hg, h, Nat.le_refl _, hn, ?_, ?_⟩⟩ (fun _ _ => trivial)
 ·have := congrArg List.length hc
  simpa [nums] using this
 ·rw [hc, List.take_of_length_le (by simp [nums])]; rfl
theorem alloc_at (W : World) (o : Obj) (i : Nat) (h : i = W.heap.size) : (W.alloc o).heap[i]? = some o := by subst h; exact heap_alloc_new W o
theorem cell_a1 {w : World} {a : Addr} {v : Value} (h : w.cell? a = some v) (o : Obj) : (w.alloc o).cell? a = some v := pw_cell_below (below_alloc (Below.refl _ _) o) h
theorem cell_a2 {w : World} {a : Addr} {v : Value} (h : w.cell? a = some v) (o o' : Obj) : ((w.alloc o).alloc o').cell? a = some v := cell_a1 (cell_a1 h o) o'
set_option maxHeartbeats 1000000 in
theorem many_calls (T O L : Int) (A : Option Addr) (n c m : Nat) (w : World) (h0 : 0 ≤ T * O) (h1 : T * O ≤ 100) :
  Calls Tryd.prog 56 #[.agg #[.int .i64 T, .int .i64 O, .int .i64 L, .slice A n c, .map (some m)]] w fun e w' => e = .returned (.int .i64 (T * O)) ∧ Below w.heap.size w w' := by
 have hu24 := Tryd.underlying24
 have hu78 := Tryd.underlying78
 go_enter Tryd.func56, Tryd.ntmps56
 go_wp2
 go_ret
 exact ⟨rfl, below_alloc (Below.refl _ _) _⟩
def RulePost (w : World) (l : List Int) (e : Ending) (w' : World) : Prop := ∃ v, e = .returned v ∧ Kd.R (Kd.int .i64) 3 w' w.heap.size (fun _ => True) v l ∧ Below w.heap.size w w'
set_option maxHeartbeats 1000000 in
theorem half_calls (T O L r a b : Int) (A : Option Addr) (n c m : Nat) (w : World) :
  Calls Tryd.prog 107 #[.agg #[.int .i64 T, .int .i64 O, .int .i64 L, .slice A n c, .map (some m)], .int .i64 r, .agg #[.int .i64 a, .int .i64 b]] w (RulePost w [b]) := by
 have hu61 := Tryd.underlying61
 have hu84 := Tryd.underlying84
 go_enter Tryd.func107, Tryd.ntmps107
 go_wp2
 go_ret
 exact ⟨_, rfl, R_lit_new (xs := [b]) rfl (alloc_at _ _ _ (by simp)) (by omega) (by simp [maxLen]) rfl, by repeat (first | exact Below.refl _ _ | apply below_alloc)⟩
set_option maxHeartbeats 1000000 in
theorem plain_calls (T O L r a b : Int) (A : Option Addr) (n c m : Nat) (w : World) :
  Calls Tryd.prog 108 #[.agg #[.int .i64 T, .int .i64 O, .int .i64 L, .slice A n c, .map (some m)], .int .i64 r, .agg #[.int .i64 a, .int .i64 b]] w (RulePost w [a, b]) := by
 have hu61 := Tryd.underlying61
 have hu84 := Tryd.underlying84
 go_enter Tryd.func108, Tryd.ntmps108
 go_wp2
 go_ret
 exact ⟨_, rfl, R_lit_new (xs := [a, b]) rfl (alloc_at _ _ _ (by simp)) (by omega) (by simp [maxLen]) rfl, by repeat (first | exact Below.refl _ _ | apply below_alloc)⟩
set_option maxHeartbeats 1000000 in
theorem double_calls (T O L r a b : Int) (A : Option Addr) (n c m : Nat) (w : World) :
  Calls Tryd.prog 109 #[.agg #[.int .i64 T, .int .i64 O, .int .i64 L, .slice A n c, .map (some m)], .int .i64 r, .agg #[.int .i64 a, .int .i64 b]] w (RulePost w [a, a, b, b]) := by
 have hu61 := Tryd.underlying61
 have hu84 := Tryd.underlying84
 go_enter Tryd.func109, Tryd.ntmps109
 go_wp2
 go_ret
 exact ⟨_, rfl, R_lit_new (xs := [a, a, b, b]) rfl (alloc_at _ _ _ (by simp)) (by omega) (by simp [maxLen]) rfl, by repeat (first | exact Below.refl _ _ | apply below_alloc)⟩
set_option maxHeartbeats 1000000 in
theorem twice_calls (T O L r a b : Int) (A : Option Addr) (n c m : Nat) (w : World) :
  Calls Tryd.prog 110 #[.agg #[.int .i64 T, .int .i64 O, .int .i64 L, .slice A n c, .map (some m)], .int .i64 r, .agg #[.int .i64 a, .int .i64 b]] w (RulePost w [a, b, a, b]) := by
 have hu61 := Tryd.underlying61
 have hu84 := Tryd.underlying84
 go_enter Tryd.func110, Tryd.ntmps110
 go_wp2
 go_ret
 exact ⟨_, rfl, R_lit_new (xs := [a, b, a, b]) rfl (alloc_at _ _ _ (by simp)) (by omega) (by simp [maxLen]) rfl, by repeat (first | exact Below.refl _ _ | apply below_alloc)⟩
set_option maxRecDepth 100000 in
set_option maxHeartbeats 1000000 in
theorem near_calls (T O L r a b : Int) (A : Option Addr) (R : List S66) (c m : Nat) (w : World) (hR : Kd.C k66 w A R.length R) (h0 : 0 ≤ r) (h1 : r < R.length)
  (ha : 0 ≤ a) (ha' : a ≤ 100) (hb : 0 ≤ b) (hb' : b ≤ 100) (hs : -6 ≤ (regAt R r).f3) (hs' : (regAt R r).f3 ≤ 6) :
  Calls Tryd.prog 111 #[.agg #[.int .i64 T, .int .i64 O, .int .i64 L, .slice A R.length c, .map (some m)], .int .i64 r, .agg #[.int .i64 a, .int .i64 b]] w (RulePost w [a + (regAt R r).f3, a, b + (regAt R r).f3, b]) := by
 have hu24 := Tryd.underlying24
 have hu61 := Tryd.underlying61
 have hu66 := Tryd.underlying66
 have hu78 := Tryd.underlying78
 have hu84 := Tryd.underlying84
 obtain ⟨ad, rfl, h0', h1', h2', h3'⟩ := at_T66 hR r h0 h1
 have e3 : (rd_T66 R r) = regAt R r := rfl
 rw [e3] at h0' h1' h2' h3'
 replace h0' := cell_a2 h0'
 replace h1' := cell_a2 h1'
 replace h2' := cell_a2 h2'
 replace h3' := cell_a2 h3'
 clear hR e3
 go_enter Tryd.func111, Tryd.ntmps111
 go_wp2
 go_ret
 exact ⟨_, rfl, R_lit_new (xs := [a + (regAt R r).f3, a, b + (regAt R r).f3, b]) rfl (alloc_at _ _ _ (by simp)) (by omega) (by simp [maxLen]) rfl, below_alloc (below_alloc (below_alloc (Below.refl _ _) _) _) _⟩
end Go.Proofs.YtagkfkdoibnhfaaDoor.K
end
section
namespace Go.Proofs.YtagkfkdoibnhfaaDoor.K
open Go.RowKit Go.Proofs.YtagkfkdoibnhfaaDoorW.PrintWords Go.Proofs.YtagkfkdoibnhfaaDoor.H
set_option linter.unusedVariables false
set_option linter.unusedSimpArgs false
theorem eqA130 (d : Nat) (w : World) (x0 y0 : Int) (x1 y1 : Int) :
  (Op.equalIn (d + 2) 130 (.agg #[.int .i64 x0, .int .i64 x1]) (.agg #[.int .i64 y0, .int .i64 y1])).run Tryd.prog w = .ok (x0 == y0 && (x1 == y1)) w := by
 refine eqA_of Tryd.underlying130 zk ?_
 refine eqf_cons (by rfl) (by go_simp; rfl) (by go_simp; rfl) (by go_simp) ?_
 exact eqf_last (by rfl) (by go_simp; rfl) (by go_simp; rfl) (by go_simp)
theorem check130 (em : Bool) (w : World) (x0 x1 : Int) : (Instr.checkKey em 10000 130 (.agg #[.int .i64 x0, .int .i64 x1])).run Tryd.prog w = .ok () w := by
 have hu := Tryd.underlying130
 have h3 := Tryd.underlying3
 have h : ∀ (a : Int) (n : Nat) (w : World), (Instr.checkKey em (n + 1) 3 (.int .i64 a)).run Tryd.prog w = .ok () w := fun a n w => by
  simp [Instr.checkKey, Sem.run_bind, run_underlying h3]
 show (Instr.checkKey em (9998 + 1 + 1) 130 _).run Tryd.prog w = _
 unfold Instr.checkKey
 simp only [Sem.run_bind, run_underlying hu, Result.andThen_ok]
 have h9 : ∀ (a : Int) (w : World), (Instr.checkKey em 9999 3 (.int .i64 a)).run Tryd.prog w = .ok () w := fun a w => h a 9998 w
 have p0 : (part 3 #[Value.int IntKind.i64 x0, Value.int IntKind.i64 x1] 0).run Tryd.prog w = .ok (.int .i64 x0) w := by go_simp
 have p1 : (part 3 #[Value.int IntKind.i64 x0, Value.int IntKind.i64 x1] 1).run Tryd.prog w = .ok (.int .i64 x1) w := by go_simp
 simp [Sem.run_bind, p0, p1, h9]
def E130 : KeyEnc Tryd.prog 130 (Int × Int) where
 enc p := .agg #[.int .i64 p.1, .int .i64 p.2]
 eq a b w := by
  refine (eqA130 9998 w a.1 b.1 a.2 b.2).trans ?_
  congr 1
  rcases a with ⟨a1, a2⟩
  rcases b with ⟨b1, b2⟩
  by_cases h1 : a1 = b1 <;> by_cases h2 : a2 = b2 <;> simp [h1, h2]
 check em a w := check130 em w a.1 a.2
 bits a := by simp [Instr.sameBits]
 now a b := ⟨_, Tryd.underlying130, .inl rfl⟩
theorem zero3 (w : World) : (zeroValue 3).run Tryd.prog w = .ok (.int .i64 0) w := by
 obtain ⟨i, hi, hz, _⟩ := info_parts info3
 simp [zeroValue, typeInfo, Sem.run_bind, hi, hz]
def Memo (T : Int) (R : List S66) (w : World) (m : Nat) : Prop :=
 ∃ kv : List ((Int × Int) × Int), MapIs E130 (Value.int .i64) w m kv ∧ ∀ p ∈ kv, p.2 = plays T (regAt R p.1.1) p.1.2
theorem Memo.lt {T : Int} {R : List S66} {w : World} {m : Nat} (h : Memo T R w m) : m < w.heap.size := by obtain ⟨_, h, _⟩ := h; exact h.lt
theorem Memo.below {T : Int} {R : List S66} {w w' : World} {m : Nat} (h : Memo T R w m) (hb : Below w.heap.size w w') : Memo T R w' m := by obtain ⟨kv, h1, h2⟩ := h; exact ⟨kv, h1.below hb, h2⟩
theorem Memo.move {T : Int} {R : List S66} {w w' : World} {m : Nat} (h : Memo T R w m) (e : w'.heap[m]? = w.heap[m]?) : Memo T R w' m := by obtain ⟨kv, h1, h2⟩ := h; exact ⟨kv, h1.move e, h2⟩
theorem Memo.alloc {T : Int} {R : List S66} {w : World} {m : Nat} (h : Memo T R w m) (o : Obj) : Memo T R (w.alloc o) m := h.below (below_alloc (Below.refl _ _) o)
theorem Memo.no_cells {T : Int} {R : List S66} {w : World} {m : Nat} (h : Memo T R w m) {c : Array Value} {t : TypeId} {f : Nat × Nat} (hc : w.heap[m]? = some (.cells c t f)) : False := by obtain ⟨kv, h1, _⟩ := h; exact h1.no_cells hc
end Go.Proofs.YtagkfkdoibnhfaaDoor.K
end
section
namespace Go.Proofs.YtagkfkdoibnhfaaDoor.K
open Go.RowKit Go.Proofs.YtagkfkdoibnhfaaDoorW.PrintWords Go.Proofs.YtagkfkdoibnhfaaDoor.H
set_option linter.unusedVariables false
set_option linter.unusedSimpArgs false
theorem irange_cons {lo hi : Int} (h : lo ≤ hi) : irange lo hi = lo :: irange (lo + 1) hi := by
 unfold irange
 obtain ⟨d, hd⟩ : ∃ d : Nat, hi + 1 - lo = d + 1 := ⟨(hi - lo).toNat, by omega⟩
 have e1 : (hi + 1 - lo).toNat = d + 1 := by omega
 have e2 : (hi + 1 - (lo + 1)).toNat = d := by omega
 rw [e1, e2, List.range_succ_eq_map]
 simp only [List.map_cons, List.map_map, List.cons.injEq]
 refine ⟨by simp, List.map_congr_left fun i _ => ?_⟩
 simp
 omega
theorem irange_nil {lo hi : Int} (h : hi < lo) : irange lo hi = [] := by
 unfold irange
 rw [show (hi + 1 - lo).toNat = 0 from by omega]
 rfl
def hit (T n hi t : Int) : Int := ((irange t hi).find? fun t => decide ((t - n) % T = 0)).getD (-1)
theorem hit_end (T n hi : Int) : hit T n hi (hi + 1) = -1 := by unfold hit; rw [irange_nil (by omega)]; rfl
theorem hit_yes {T n hi t : Int} (h : t ≤ hi) (hz : Int.tmod (t - n) T = 0) : hit T n hi t = t := by
 unfold hit; rw [irange_cons h, List.find?_cons, decide_eq_true ((tmod_zero _ _).1 hz)]; rfl
theorem hit_no {T n hi t : Int} (h : t ≤ hi) (hz : ¬ Int.tmod (t - n) T = 0) : hit T n hi t = hit T n hi (t + 1) := by
 unfold hit; rw [irange_cons h, List.find?_cons, decide_eq_false (fun e => hz ((tmod_zero _ _).2 e))]
theorem plays_hit {T n : Int} {x : S66} (h : ¬ (x.f1 ≤ n ∧ n ≤ x.f2)) : plays T x n = hit T n x.f2 x.f1 := by unfold plays hit; rw [if_neg h]
theorem plays_in {T n : Int} {x : S66} (h : x.f1 ≤ n ∧ n ≤ x.f2) : plays T x n = n := by unfold plays; rw [if_pos h]
structure Kp (m : Nat) (w w' : World) : Prop where
 os : w'.os = w.os
 tape : w'.tape = w.tape
 output : w'.output = w.output
 size : w.heap.size ≤ w'.heap.size
 block : ∀ i, i < w.heap.size → i ≠ m → w'.heap[i]? = w.heap[i]?
def PlaysPost (T : Int) (R : List S66) (r n : Int) (m : Nat) (w : World) (e : Ending) (w' : World) : Prop :=
 e = .returned (.int .i64 (plays T (regAt R r) n)) ∧ Memo T R w' m ∧ Kp m w w'
theorem Kp.of_below {w w' : World} {m : Nat} (hb : Below w.heap.size w w') : Kp m w w' := ⟨hb.os, hb.tape, hb.output, hb.size, fun i hi _ => hb.block i hi⟩
theorem Kp.refl (m : Nat) (w : World) : Kp m w w := ⟨rfl, rfl, rfl, Nat.le_refl _, fun _ _ _ => rfl⟩
theorem Kp.grown {w w1 w' : World} {m : Nat} (hb : Below w.heap.size w w1) (hg : w1.grownBy w' (some m)) : Kp m w w' :=
 ⟨hg.os.trans hb.os, hg.tape.trans hb.tape, hg.output.trans hb.output, Nat.le_trans hb.size hg.size, fun i hi hm => (hg.block i (Nat.lt_of_lt_of_le hi hb.size) (fun e => hm (Option.some.inj e))).trans (hb.block i hi)⟩
theorem Kp.trans {w w1 w2 : World} {m : Nat} (h : Kp m w w1) (h' : Kp m w1 w2) : Kp m w w2 :=
 ⟨h'.os.trans h.os, h'.tape.trans h.tape, h'.output.trans h.output, Nat.le_trans h.size h'.size, fun i hi hm => (h'.block i (Nat.lt_of_lt_of_le hi h.size) hm).trans (h.block i hi hm)⟩
theorem Kp.set {w w1 : World} {m g : Nat} (h : Kp m w w1) (hg : w.heap.size ≤ g) (j : Nat) (v : Value) : Kp m w (w1.setCell ⟨g, j, none⟩ v) :=
 ⟨h.os, h.tape, h.output, by simpa using h.size, fun i hi hm => (Below.heap_setCell w1 ⟨g, j, none⟩ v i (by intro e; subst e; exact absurd hi (Nat.not_lt.2 hg))).trans (h.block i hi hm)⟩
theorem Kp.keep {w w' : World} {m : Nat} (h : Kp m w w') : KeepBut w w' m none := ⟨h.size, fun i hi hm _ => h.block i hi hm⟩
theorem Kp.below {w0 w w' : World} {m : Nat} (hb : Below w0.heap.size w0 w) (hm : w0.heap.size ≤ m) (hk : Kp m w w') : Below w0.heap.size w0 w' :=
 ⟨hk.os.trans hb.os, hk.tape.trans hb.tape, hk.output.trans hb.output, Nat.le_trans hb.size hk.size, fun i hi => (hk.block i (Nat.lt_of_lt_of_le hi hb.size) (by omega)).trans (hb.block i hi)⟩
set_option maxRecDepth 100000 in
set_option maxHeartbeats 2000000 in
theorem plays_known (T O L r n : Int) (A : Option Addr) (R : List S66) (c m : Nat) (w : World) (kv : List ((Int × Int) × Int)) (hM : MapIs E130 (Value.int .i64) w m kv) (v : Int) (hk : kvGet (Value.int .i64) (.int .i64 0) kv (r, n) = (.int .i64 v, true)) :
  Calls Tryd.prog 80 #[.agg #[.int .i64 T, .int .i64 O, .int .i64 L, .slice A R.length c, .map (some m)], .int .i64 r, .int .i64 n] w fun e w' => e = .returned (.int .i64 v) ∧ Below w.heap.size w w' := by
 have hu24 := Tryd.underlying24
 have hu66 := Tryd.underlying66
 have hu78 := Tryd.underlying78
 have hu130 := Tryd.underlying130
 have HM := zh hM
 have HK := zh hk
 clear hM hk
 go_enter Tryd.func80, Tryd.ntmps80
 go_wp2_with (first | ((with_reducible refine wpList_look E130 (Value.int .i64) rfl (.tmp 18) (.tmp 19) true rfl Tryd.underlying76 rfl ((HM.out.alloc _).alloc _) (.int .i64 0) (zero3 _) (r, n) rfl ?_); rw [HK.out]))
 go_ret
 exact ⟨rfl, by repeat (first | exact Below.refl _ _ | apply below_alloc)⟩
set_option maxRecDepth 100000 in
set_option maxHeartbeats 4000000 in
theorem plays_new (T O L r n : Int) (A : Option Addr) (R : List S66) (c m : Nat) (w : World) (kv : List ((Int × Int) × Int)) (hM : MapIs E130 (Value.int .i64) w m kv) (v : Int) (hk : kvGet (Value.int .i64) (.int .i64 0) kv (r, n) = (.int .i64 v, false))
  (hR : Kd.C k66 w A R.length R) (h0 : 0 ≤ r) (h1 : r < R.length) (hT : 2 ≤ T) (hT' : T ≤ 7) (x : S66) (hx : regAt R r = x) (hlo : 0 ≤ x.f1) (hhi : x.f1 ≤ x.f2) (hhi' : x.f2 ≤ 100) (hn : -10 ≤ n) (hn' : n ≤ 110) :
  Calls Tryd.prog 80 #[.agg #[.int .i64 T, .int .i64 O, .int .i64 L, .slice A R.length c, .map (some m)], .int .i64 r, .int .i64 n] w
   fun e w' => e = .returned (.int .i64 (plays T x n)) ∧ MapIs E130 (Value.int .i64) w' m (kvSet (r, n) (plays T x n) kv) ∧ Kp m w w' := by
 have hu24 := Tryd.underlying24
 have hu66 := Tryd.underlying66
 have hu78 := Tryd.underlying78
 have hu130 := Tryd.underlying130
 have hT0 : (T == 0) = false := beq_eq_false_iff_ne.2 (by omega)
 obtain ⟨ad, rfl, c0, c1, c2, c3⟩ := at_T66 hR r h0 h1
 have e3 : (rd_T66 R r) = x := hx
 rw [e3] at c0 c1 c2 c3
 clear e3
 have HX := zh hx
 replace c0 := cell_a2 c0
 replace c1 := cell_a2 c1
 replace c2 := cell_a2 c2
 replace c3 := cell_a2 c3
 clear hR hx
 have HM := zh hM
 have HK := zh hk
 clear hM hk
 by_cases hin : x.f1 ≤ n ∧ n ≤ x.f2
 ·have hf : kernel_in.f n x.f1 x.f2 = some true := by unfold kernel_in.f; rw [if_pos hin.1, decide_eq_true hin.2]
  have HF := zh hf
  have HV := zh (plays_in (T := T) hin)
  clear hf hin
  go_enter Tryd.func80, Tryd.ntmps80
  go_wp2_with (first | ((with_reducible refine wpList_look E130 (Value.int .i64) rfl (.tmp 18) (.tmp 19) true rfl Tryd.underlying76 rfl ((HM.out.alloc _).alloc _) (.int .i64 0) (zero3 _) (r, n) rfl ?_); rw [HK.out]) | (go_at_call 55; (with_reducible refine (kernel_in.calls n x.f1 x.f2 true _ HF.out).mono ?_); rintro e w' ⟨rfl, ⟨nd, rfl⟩⟩) | ((with_reducible refine wpList_update E130 (Value.int .i64) rfl (.tmp 56) (.tmp 57) (.tmp 58) rfl Tryd.underlying76 rfl (HM.out.below (w' := _) dQ9) (r, n) (n) rfl rfl ?_); intro w1 hm1 hg1))
  have hkb := Kp.grown (w := w) dQ9 hg1
  go_ret
  rw [HV.out]
  exact ⟨rfl, hm1, hkb⟩
 ·have hf : kernel_in.f n x.f1 x.f2 = some false := by
   unfold kernel_in.f
   by_cases h : x.f1 ≤ n
   ·rw [if_pos h, decide_eq_false (fun h' => hin ⟨h, h'⟩)]
   ·rw [if_neg h]
  have HF := zh hf
  have HV := zh (plays_hit (T := T) hin)
  clear hf hin
  go_enter Tryd.func80, Tryd.ntmps80
  go_wp2_with (first | ((with_reducible refine wpList_look E130 (Value.int .i64) rfl (.tmp 18) (.tmp 19) true rfl Tryd.underlying76 rfl ((HM.out.alloc _).alloc _) (.int .i64 0) (zero3 _) (r, n) rfl ?_); rw [HK.out]) | (go_at_call 55; (with_reducible refine (kernel_in.calls n x.f1 x.f2 false _ HF.out).mono ?_); rintro e w' ⟨rfl, ⟨nd, rfl⟩⟩))
  go_loop [11, 12] (fun v u => ∃ t : Int, x.f1 - 1 ≤ t ∧ t ≤ x.f2 ∧ u = .int .i64 t ∧ v = .int .i64 (hit T n x.f2 (t + 1))) (fun _ u => (intOf u - x.f1 + 1).toNat)
  case atStart => exact ⟨x.f2, by omega, by omega, rfl, by rw [hit_end]⟩
  case round =>
   obtain ⟨t, ht1, ht2, rfl, rfl⟩ := hrel
   by_cases hlt : x.f1 ≤ t
   ·by_cases hz : Int.tmod (t - n) T = 0
    ·have hz' : (Int.tmod (t - n) T == 0) = true := beq_iff_eq.2 hz
     have HZ := zh (hit_yes ht2 hz)
     clear hz
     go_wp2
     go_round
     case rel => exact ⟨t - 1, by omega, by omega, rfl, by rw [show t - 1 + 1 = t from by omega, HZ.out]⟩
     case measure => simp [intOf]; omega
    ·have hz' : (Int.tmod (t - n) T == 0) = false := beq_eq_false_iff_ne.2 hz
     have HZ := zh (hit_no ht2 hz)
     clear hz
     go_wp2
     go_round
     case rel => exact ⟨t - 1, by omega, by omega, rfl, by rw [show t - 1 + 1 = t from by omega, HZ.out]⟩
     case measure => simp [intOf]; omega
   ·obtain rfl : t = x.f1 - 1 := by omega
    have he : x.f1 - 1 + 1 = x.f1 := by omega
    simp only [he]
    have HE : plays T x n = hit T n x.f2 x.f1 := HV.out
    generalize hv : hit T n x.f2 x.f1 = u at HE ⊢
    have HV2 := zh HE
    clear HE hv he
    go_wp2_with (first | ((with_reducible refine wpList_update E130 (Value.int .i64) rfl (.tmp 56) (.tmp 57) (.tmp 58) rfl Tryd.underlying76 rfl (HM.out.below (w' := _) dQ9) (r, n) (u) rfl rfl ?_); intro w1 hm1 hg1))
    have hkb := Kp.grown (w := w) dQ9 hg1
    go_ret
    rw [HV2.out]
    exact ⟨rfl, hm1, hkb⟩
structure RegOk (x : S66) : Prop where
 lo : 0 ≤ x.f1
 le : x.f1 ≤ x.f2
 hi : x.f2 ≤ 100
 s0 : -6 ≤ x.f3
 s1 : x.f3 ≤ 6
 r0 : 0 ≤ x.f0
 r1 : x.f0 ≤ 4
theorem plays_calls (T O L r n : Int) (A : Option Addr) (R : List S66) (c m : Nat) (w : World) (hM : Memo T R w m) (hR : Kd.C k66 w A R.length R) (h0 : 0 ≤ r) (h1 : r < R.length) (hT : 2 ≤ T) (hT' : T ≤ 7) (hx : RegOk (regAt R r)) (hn : -10 ≤ n) (hn' : n ≤ 110) :
  Calls Tryd.prog 80 #[.agg #[.int .i64 T, .int .i64 O, .int .i64 L, .slice A R.length c, .map (some m)], .int .i64 r, .int .i64 n] w (PlaysPost T R r n m w) := by
 obtain ⟨kv, hm, hv⟩ := hM
 cases hf : kv.find? fun p => decide ((r, n) = p.1) with
 | some p =>
  have hp := List.find?_some hf
  have hp' : (r, n) = p.1 := by simpa using hp
  have hmem := List.mem_of_find?_eq_some hf
  have hv' := hv p hmem
  rw [← hp'] at hv'
  refine (plays_known T O L r n A R c m w kv hm p.2 (by unfold kvGet; rw [hf])).mono ?_
  rintro e w' ⟨rfl, hb⟩
  exact ⟨by rw [hv'], ⟨kv, hm.below hb, hv⟩, Kp.of_below hb⟩
 | none =>
  refine (plays_new T O L r n A R c m w kv hm 0 (by unfold kvGet; rw [hf]) hR h0 h1 hT hT' _ rfl hx.lo hx.le hx.hi hn hn').mono ?_
  rintro e w' ⟨rfl, hm', hb⟩
  refine ⟨rfl, ⟨_, hm', fun p hp => ?_⟩, hb⟩
  rcases kvSet_mem hp with rfl | hp
  ·rfl
  ·exact hv p hp
end Go.Proofs.YtagkfkdoibnhfaaDoor.K
end
section
namespace Go.Proofs.YtagkfkdoibnhfaaDoor.K
open Go.RowKit Go.Proofs.YtagkfkdoibnhfaaDoorW.PrintWords Go.Proofs.YtagkfkdoibnhfaaDoor.H
set_option linter.unusedVariables false
set_option linter.unusedSimpArgs false
theorem R_nomap {T : Int} {R : List S66} {w : World} {m : Nat} (hM : Memo T R w m) {α : Type} {d : Kd α} {e base : Nat} {ok : Nat → Prop} {v : Value} {xs : List α} (h : d.R e w base ok v xs) : d.R e w base (fun k => ok k ∧ k ≠ m) v xs :=
 Kd.R_mono (Kd.R_bound h) (fun k hk => ⟨hk.1, by
  obtain ⟨_, _, _, q, _, cells, hc⟩ := hk
  rintro rfl
  exact hM.no_cells hc⟩)
theorem R_kept {T : Int} {R : List S66} {w w' : World} {m : Nat} (hM : Memo T R w m) (hk : Kp m w w') {α : Type} {d : Kd α} {e base : Nat} {ok : Nat → Prop} {v : Value} {xs : List α} (h : d.R e w base ok v xs) : d.R e w' base ok v xs :=
 Kd.R_mono (Kd.R_keep (R_nomap hM h) hk.keep (fun _ h => h.2)) (fun _ h => h.1)
theorem len25 (g n c : Nat) (W : World) : (Builtin.len_ #[25] 3 #[.slice (some ⟨g, 0, none⟩) n c]).run Tryd.prog W = .ok (.int .i64 n) W := by go_simp
def partly (T : Int) (x : S66) (l : List Int) (k : Nat) : List Int := (l.take k).map (plays T x) ++ l.drop k
theorem partly_zero (T : Int) (x : S66) (l : List Int) : partly T x l 0 = l := by simp [partly]
theorem partly_all (T : Int) (x : S66) (l : List Int) : partly T x l l.length = l.map (plays T x) := by simp [partly]
theorem partly_len (T : Int) (x : S66) (l : List Int) (k : Nat) (h : k ≤ l.length) : (partly T x l k).length = l.length := by simp [partly]; omega
theorem partly_at (T : Int) (x : S66) (l : List Int) (k : Nat) (h : k < l.length) : rdOf 0 (partly T x l k) (k : Int) = l[k] := by
 unfold partly rdOf
 rw [List.getD_eq_getElem?_getD, List.getElem?_append_right (by simp; omega)]
 simp [Nat.min_eq_left (Nat.le_of_lt h), h]
theorem partly_set (T : Int) (x : S66) (l : List Int) (k : Nat) (h : k < l.length) : (partly T x l k).set k (plays T x l[k]) = partly T x l (k + 1) := by
 unfold partly
 have e1 : ((l.take k).map (plays T x)).length = k := by simp; omega
 rw [List.set_append_right (h := by omega), e1, Nat.sub_self, List.drop_eq_getElem_cons h, List.set_cons_zero, List.take_succ_eq_append_getElem h, List.map_append, List.append_assoc]
 rfl
def StrokesPost (T : Int) (R : List S66) (l : List Int) (m : Nat) (w : World) (e : Ending) (w' : World) : Prop :=
 ∃ v, e = .returned v ∧ Kd.R (Kd.int .i64) 3 w' w.heap.size (fun _ => True) v l ∧ Memo T R w' m ∧ Kp m w w'
set_option maxRecDepth 100000 in
set_option maxHeartbeats 8000000 in
theorem strokes_any (T O L r a b : Int) (A : Option Addr) (R : List S66) (c m : Nat) (w : World) (hR : Kd.C k66 w A R.length R) (hG : Glob w) (hM : Memo T R w m) (h0 : 0 ≤ r) (h1 : r < R.length) (hT : 2 ≤ T) (hT' : T ≤ 7) (x : S66) (hx : regAt R r = x) (hok : RegOk x)
  (ha : 0 ≤ a) (ha' : a ≤ 100) (hb0 : 0 ≤ b) (hb1 : b ≤ 100) (hRk : ∀ w', Kp m w w' → Kd.C k66 w' A R.length R)
  (l : List Int) (hj : (x.f0 = 0 ∧ [b] = l) ∨ (x.f0 = 1 ∧ [a, b] = l) ∨ (x.f0 = 2 ∧ [a, a, b, b] = l) ∨ (x.f0 = 3 ∧ [a, b, a, b] = l) ∨ (x.f0 = 4 ∧ [a + x.f3, a, b + x.f3, b] = l)) (hlb : ∀ n ∈ l, -10 ≤ n ∧ n ≤ 110) (hp : 0 < l.length) (hp4 : l.length ≤ 4) :
  Calls Tryd.prog 57 #[.agg #[.int .i64 T, .int .i64 O, .int .i64 L, .slice A R.length c, .map (some m)], .int .i64 r, .agg #[.int .i64 a, .int .i64 b]] w (StrokesPost T R (l.map (plays T x)) m w) := by
 rcases hj with ⟨h, hl⟩ | ⟨h, hl⟩ | ⟨h, hl⟩ | ⟨h, hl⟩ | ⟨h, hl⟩
 all_goals
  have hu24 := Tryd.underlying24
  have hu61 := Tryd.underlying61
  have hu66 := Tryd.underlying66
  have hu78 := Tryd.underlying78
  have hu84 := Tryd.underlying84
  have hu117 := Tryd.underlying117
  obtain ⟨ad, rfl, c0, c1, c2, c3⟩ := at_T66 hR r h0 h1
  have e3 : (rd_T66 R r) = x := hx
  rw [e3, h] at c0
  have g0 := hG.2 (x.f0).toNat (by rw [h]; decide)
  rw [h] at g0
  simp only [Int.reduceToNat] at g0
  have HR := zh hR
  have HM := zh hM
  have HX := zh hx
  have HL := zh hl
  have HRK := zh hRk
  have HLB := zh hlb
  clear e3 c1 c2 c3 hR hM hx hl hRk hlb h
  go_enter Tryd.func57, Tryd.ntmps57
  go_wp2
  have hB : Below w.heap.size w ((w.alloc (.cells #[.int .i64 T, .int .i64 O, .int .i64 L, .slice (some ad) R.length c, .map (some m)] 78)).alloc (.cells #[.int .i64 a, .int .i64 b] 84)) := by repeat (first | exact Below.refl _ _ | apply below_alloc)
  have b1 : ((w.alloc (.cells #[.int .i64 T, .int .i64 O, .int .i64 L, .slice (some ad) R.length c, .map (some m)] 78)).alloc (.cells #[.int .i64 a, .int .i64 b] 84)).heap[w.heap.size]? = some (.cells #[.int .i64 T, .int .i64 O, .int .i64 L, .slice (some ad) R.length c, .map (some m)] 78 (0, 0)) := blk_alloc (heap_alloc_new w _) _
  have b2 : ((w.alloc (.cells #[.int .i64 T, .int .i64 O, .int .i64 L, .slice (some ad) R.length c, .map (some m)] 78)).alloc (.cells #[.int .i64 a, .int .i64 b] 84)).heap[w.heap.size + 1]? = some (.cells #[.int .i64 a, .int .i64 b] 84 (0, 0)) := alloc_at _ _ _ (by simp)
  generalize ((w.alloc (.cells #[.int .i64 T, .int .i64 O, .int .i64 L, .slice (some ad) R.length c, .map (some m)] 78)).alloc (.cells #[.int .i64 a, .int .i64 b] 84)) = W at hB b1 b2 ⊢
  refine wp_region_still_tail 12 zk zk ?_
  simp only [List.take_succ_cons, List.take_zero, List.drop_succ_cons, List.drop_zero]
  replace hB : Below w.heap.size w W.drew := below_drew1 hB
  replace b1 : W.drew.heap[w.heap.size]? = some (.cells #[.int .i64 T, .int .i64 O, .int .i64 L, .slice (some ad) R.length c, .map (some m)] 78 (0, 0)) := b1
  replace b2 : W.drew.heap[w.heap.size + 1]? = some (.cells #[.int .i64 a, .int .i64 b] 84 (0, 0)) := b2
  change wpStill Tryd.prog _ W.drew _ _ _
  obtain ⟨W2, hW2⟩ : ∃ W2, W.drew = W2 := ⟨_, rfl⟩
  rw [hW2] at hB b1 b2 ⊢
  have HW2 := zh hW2
  clear hW2
  have d0 : W2.cell? ⟨w.heap.size, 0, none⟩ = some (.int .i64 T) := (blk_cell b1 0).trans rfl
  have d1 : W2.cell? ⟨w.heap.size, 1, none⟩ = some (.int .i64 O) := (blk_cell b1 1).trans rfl
  have d2 : W2.cell? ⟨w.heap.size, 2, none⟩ = some (.int .i64 L) := (blk_cell b1 2).trans rfl
  have d3 : W2.cell? ⟨w.heap.size, 3, none⟩ = some (.slice (some ad) R.length c) := (blk_cell b1 3).trans rfl
  have d4 : W2.cell? ⟨w.heap.size, 4, none⟩ = some (.map (some m)) := (blk_cell b1 4).trans rfl
  have d5 : W2.cell? ⟨w.heap.size + 1, 0, none⟩ = some (.int .i64 a) := (blk_cell b2 0).trans rfl
  have d6 : W2.cell? ⟨w.heap.size + 1, 1, none⟩ = some (.int .i64 b) := (blk_cell b2 1).trans rfl
  have f0 := pw_cell_below hB g0
  replace c0 := pw_cell_below hB c0
  have HB := zh hB
  have BK := zh b1
  have HBs := hB.size
  have hs0 := blk_lt b1
  have hs1 := blk_lt b2
  clear hB b1 b2
  repeat still_step
  refine wpStill_nil ?_
  clear g0
  change wpList _ _ _ _ _ W.drew
  rw [HW2.out]
  clear HW2
  go_wp2_with (first | ((go_at_call 107; (with_reducible refine (half_calls T O L r a b _ R.length c m _).mono ?_)); rintro e w3 ⟨v, rfl, hr, hb⟩; have hlen := HL.out; rw [hlen] at hr; clear hlen; obtain ⟨g, cap, rfl, hg1, hg2, cells, hg3⟩ := Kd.R_form hr hp; have hln := fun W => len25 g l.length cap W) | ((go_at_call 108; (with_reducible refine (plain_calls T O L r a b _ R.length c m _).mono ?_)); rintro e w3 ⟨v, rfl, hr, hb⟩; have hlen := HL.out; rw [hlen] at hr; clear hlen; obtain ⟨g, cap, rfl, hg1, hg2, cells, hg3⟩ := Kd.R_form hr hp; have hln := fun W => len25 g l.length cap W) | ((go_at_call 109; (with_reducible refine (double_calls T O L r a b _ R.length c m _).mono ?_)); rintro e w3 ⟨v, rfl, hr, hb⟩; have hlen := HL.out; rw [hlen] at hr; clear hlen; obtain ⟨g, cap, rfl, hg1, hg2, cells, hg3⟩ := Kd.R_form hr hp; have hln := fun W => len25 g l.length cap W) | ((go_at_call 110; (with_reducible refine (twice_calls T O L r a b _ R.length c m _).mono ?_)); rintro e w3 ⟨v, rfl, hr, hb⟩; have hlen := HL.out; rw [hlen] at hr; clear hlen; obtain ⟨g, cap, rfl, hg1, hg2, cells, hg3⟩ := Kd.R_form hr hp; have hln := fun W => len25 g l.length cap W) | ((go_at_call 111; (with_reducible refine (near_calls T O L r a b _ R c m _ (Kd.C_below HR.out HB.out) h0 h1 ha ha' hb0 hb1 (by rw [HX.out]; exact hok.s0) (by rw [HX.out]; exact hok.s1)).mono ?_)); rintro e w3 ⟨v, rfl, hr, hb⟩; rw [HX.out] at hr; have hlen := HL.out; rw [hlen] at hr; clear hlen; obtain ⟨g, cap, rfl, hg1, hg2, cells, hg3⟩ := Kd.R_form hr hp; have hln := fun W => len25 g l.length cap W))
  clear d0 d1 d2 d3 d4 d5 d6 f0 c0
  have HB3 := zh (below_step HB.out hb)
  have BK3 := zh (blk_below BK.out hb)
  have hr' := Kd.R_lower hr (base' := w.heap.size) (by omega)
  have HO := zh hr'
  have HM3 := zh (HM.out.below (w' := w3) HB3.out)
  have hgw : g ≠ w.heap.size := by
   rintro rfl
   rw [BK3.out] at hg3
   simp at hg3
  have hgm : g ≠ m := by rintro rfl; exact HM3.out.no_cells hg3
  have hmw : m ≠ w.heap.size := by rintro rfl; exact HM3.out.no_cells BK3.out
  clear hr hr' hb hg3 HB BK cells
  go_loopw [25] (fun u wr => ∃ k : Nat, k ≤ l.length ∧ u = .int .i64 k ∧ Aside0 (Kd.R (Kd.int .i64) 3 wr w.heap.size (fun _ => True) (.slice (some ⟨g, 0, none⟩) l.length cap) (partly T x l k)) ∧ Aside0 (Memo T R wr m) ∧ Aside0 (Kp m w wr) ∧ Aside0 (wr.heap[w.heap.size]? = some (.cells #[.int .i64 T, .int .i64 O, .int .i64 L, .slice (some ad) R.length c, .map (some m)] 78 (0, 0)))) (fun u _ => l.length - (intOf u).toNat)
  case atStart => exact ⟨0, Nat.zero_le _, rfl, ⟨by rw [partly_zero]; exact HO.out⟩, HM3, ⟨Kp.of_below HB3.out⟩, BK3⟩
  case round =>
   obtain ⟨k, hk, rfl, HOk, HMk, HKk, HBk⟩ := hrel
   by_cases hlt : k < l.length
   ·have hlen' : (partly T x l k).length = l.length := partly_len T x l k hk
    obtain ⟨q1, q2⟩ := Kd.R_celln (d := (0 : Int)) HOk.out (k : Int) (by omega) (by omega)
    rw [partly_at T x l k hlt, Int.toNat_natCast] at q1
    have hkb := HLB.out l[k] (List.getElem_mem hlt)
    have hkb1 := hkb.1
    have hkb2 := hkb.2
    have z0 : wr.cell? ⟨w.heap.size, 0, none⟩ = some (.int .i64 T) := vb HBk 0
    have z1 : wr.cell? ⟨w.heap.size, 1, none⟩ = some (.int .i64 O) := vb HBk 1
    have z2 : wr.cell? ⟨w.heap.size, 2, none⟩ = some (.int .i64 L) := vb HBk 2
    have z3 : wr.cell? ⟨w.heap.size, 3, none⟩ = some (.slice (some ad) R.length c) := vb HBk 3
    have z4 : wr.cell? ⟨w.heap.size, 4, none⟩ = some (.map (some m)) := vb HBk 4
    have HQ := zh hlen'
    clear q2 hkb hlen'
    generalize hlk : l[k] = y at q1 hkb1 hkb2
    have HLK := zh hlk
    clear hlk
    go_wp2_with (first | ((go_at_call 80; (with_reducible refine (plays_calls T O L r y _ R c m _ HMk.out (HRK.out _ HKk.out) h0 h1 hT hT' (by rw [HX.out]; exact hok) hkb1 hkb2).mono ?_)); rintro e w4 ⟨rfl, hm4, hk4⟩; have HM4 := zh hm4; have HK4 := zh hk4; have HO4 := zh (R_kept HMk.out hk4 HOk.out); have HB4 := zh ((hk4.block _ (blk_lt HBk.out) (Ne.symm hmw)).trans HBk.out); clear hm4 hk4; obtain ⟨q3, q4⟩ := Kd.R_celln (d := (0 : Int)) HO4.out (k : Int) (by omega) (by have := HQ.out; omega); rw [Int.toNat_natCast] at q3 q4; rw [HX.out]))
    have hp1 := Kd.R_putn HO4.out (k : Int) (plays T x y)
    rw [Int.toNat_natCast] at hp1
    have hp2 := partly_set T x l k hlt
    rw [HLK.out] at hp2
    rw [hp2] at hp1
    have HP := zh hp1
    have hkk := Kp.set (HKk.out.trans HK4.out) (g := g) (by omega) k (.int .i64 (plays T x y))
    have HKK := zh hkk
    have HMM := zh (HM4.out.move (w' := w4.setCell ⟨g, k, none⟩ (.int .i64 (plays T x y))) (Below.heap_setCell _ _ _ _ (Ne.symm hgm)))
    have HBB := zh ((Below.heap_setCell w4 ⟨g, k, none⟩ (.int .i64 (plays T x y)) w.heap.size (Ne.symm hgw)).trans HB4.out)
    clear hp1 hp2 hkk
    go_wp2
    go_roundw
    case rel => exact ⟨k + 1, by omega, by go_num, HP, HMM, HKK, HBB⟩
    case measure => simp [intOf]; omega
   ·obtain rfl : k = l.length := by omega
    go_wp2
    go_ret
    exact ⟨_, rfl, by rw [← partly_all]; exact (by simpa using HOk.out), HMk.out, HKk.out⟩
structure Ctx (w0 w : World) (T : Int) (A : Option Addr) (R : List S66) (m : Nat) : Prop where
 base : Below w0.heap.size w0 w
 hm : w0.heap.size ≤ m
 regs : Kd.C k66 w0 A R.length R
 glob : Glob w0
 memo : Memo T R w m
 T0 : 2 ≤ T
 T1 : T ≤ 7
 ok : ∀ r : Int, 0 ≤ r → r < R.length → RegOk (regAt R r)
theorem Ctx.step {w0 w w' : World} {T : Int} {A : Option Addr} {R : List S66} {m : Nat} (h : Ctx w0 w T A R m) (hk : Kp m w w') (hM : Memo T R w' m) : Ctx w0 w' T A R m :=
 { h with base := Kp.below h.base h.hm hk, memo := hM }
theorem Ctx.below {w0 w w' : World} {T : Int} {A : Option Addr} {R : List S66} {m : Nat} (h : Ctx w0 w T A R m) (hb : Below w.heap.size w w') : Ctx w0 w' T A R m :=
 h.step (Kp.of_below hb) (h.memo.below hb)
theorem Ctx.C {w0 w : World} {T : Int} {A : Option Addr} {R : List S66} {m : Nat} (h : Ctx w0 w T A R m) : Kd.C k66 w A R.length R := Kd.C_below h.regs h.base
theorem Ctx.G {w0 w : World} {T : Int} {A : Option Addr} {R : List S66} {m : Nat} (h : Ctx w0 w T A R m) : Glob w := h.glob.below h.base
theorem strokes_calls (T O L r a b : Int) (A : Option Addr) (R : List S66) (c m : Nat) (w0 w : World) (h : Ctx w0 w T A R m) (h0 : 0 ≤ r) (h1 : r < R.length) (ha : 0 ≤ a) (ha' : a ≤ 100) (hb0 : 0 ≤ b) (hb1 : b ≤ 100) :
  Calls Tryd.prog 57 #[.agg #[.int .i64 T, .int .i64 O, .int .i64 L, .slice A R.length c, .map (some m)], .int .i64 r, .agg #[.int .i64 a, .int .i64 b]] w (StrokesPost T R (strokes T R r a b) m w) := by
 have hx := h.ok r h0 h1
 have hRk : ∀ w', Kp m w w' → Kd.C k66 w' A R.length R := fun w' hk => Kd.C_below h.regs (Kp.below h.base h.hm hk)
 have r0 := hx.r0
 have r1 := hx.r1
 have s0 := hx.s0
 have s1 := hx.s1
 unfold strokes bar
 by_cases e0 : (regAt R r).f0 = 0
 ·rw [if_pos e0]; exact strokes_any T O L r a b A R c m w h.C h.G h.memo h0 h1 h.T0 h.T1 _ rfl hx ha ha' hb0 hb1 hRk _ (.inl ⟨e0, rfl⟩) (by simp; omega) (by simp) (by simp)
 rw [if_neg e0]
 by_cases e1 : (regAt R r).f0 = 1
 ·rw [if_pos e1]; exact strokes_any T O L r a b A R c m w h.C h.G h.memo h0 h1 h.T0 h.T1 _ rfl hx ha ha' hb0 hb1 hRk _ (.inr (.inl ⟨e1, rfl⟩)) (by simp; omega) (by simp) (by simp)
 rw [if_neg e1]
 by_cases e2 : (regAt R r).f0 = 2
 ·rw [if_pos e2]; exact strokes_any T O L r a b A R c m w h.C h.G h.memo h0 h1 h.T0 h.T1 _ rfl hx ha ha' hb0 hb1 hRk _ (.inr (.inr (.inl ⟨e2, rfl⟩))) (by simp; omega) (by simp) (by simp)
 rw [if_neg e2]
 by_cases e3 : (regAt R r).f0 = 3
 ·rw [if_pos e3]; exact strokes_any T O L r a b A R c m w h.C h.G h.memo h0 h1 h.T0 h.T1 _ rfl hx ha ha' hb0 hb1 hRk _ (.inr (.inr (.inr (.inl ⟨e3, rfl⟩)))) (by simp; omega) (by simp) (by simp)
 rw [if_neg e3]
 exact strokes_any T O L r a b A R c m w h.C h.G h.memo h0 h1 h.T0 h.T1 _ rfl hx ha ha' hb0 hb1 hRk _ (.inr (.inr (.inr (.inr ⟨by omega, rfl⟩)))) (by simp; omega) (by simp) (by simp)
end Go.Proofs.YtagkfkdoibnhfaaDoor.K
end
section
namespace Go.Proofs.YtagkfkdoibnhfaaDoor.H
open Go.RowKit Go.Proofs.YtagkfkdoibnhfaaDoorW.PrintWords Go.Proofs.YtagkfkdoibnhfaaDoorW.PrintLast Go.Proofs.YtagkfkdoibnhfaaDoorW.PrintMore
attribute [local go_sem] max2_int min2_int max_two min_two max_three min_three max_four min_four   -- for this text's walks alone
set_option linter.unusedVariables false
set_option linter.unusedSimpArgs false
mutual
def kernel_Check.j0 : Nat → Bool → Int → Int → Int → List (S66) → Option (Int)
 | 0, _, _, _, _, _ => none
 | k + 1, x3, x102000, x102001, x102002, x102003 => kernel_Check.l0 k x3 x102003 (x102003.length : Int) 0 x102000 x102001 x102002 x102003
def kernel_Check.l0 : Nat → Bool → List (S66) → Int → Int → Int → Int → Int → List (S66) → Option (Int)
 | 0, _, _, _, _, _, _, _, _ => none
 | k + 1, x3, x32, x33, x34, x102000, x102001, x102002, x102003 => if x34 < x33 then (if 0 ≤ x34 then (if x34 < (x32.length : Int) then (if x3 = true then ((kernel_in.f ((rd_T66 x32 x34).f0) 0 4).bind fun t108 => (if t108 = true then ((kernel_in.f ((rd_T66 x32 x34).f1) 0 ((rd_T66 x32 x34).f2)).bind fun t109 => (if t109 = true then ((kernel_in.f ((rd_T66 x32 x34).f2) 0 (wrap64 ((wrap64 (x102000 * x102001)) - 1))).bind fun t110 => (if t110 = true then ((kernel_in.f ((rd_T66 x32 x34).f3) (-6) 6).bind fun t111 => (kernel_Check.l0 k t111 x32 x33 (wrap64 (x34 + 1)) x102000 x102001 x102002 x102003)) else (kernel_Check.l0 k false x32 x33 (wrap64 (x34 + 1)) x102000 x102001 x102002 x102003))) else (kernel_Check.l0 k false x32 x33 (wrap64 (x34 + 1)) x102000 x102001 x102002 x102003))) else (kernel_Check.l0 k false x32 x33 (wrap64 (x34 + 1)) x102000 x102001 x102002 x102003))) else (kernel_Check.l0 k false x32 x33 (wrap64 (x34 + 1)) x102000 x102001 x102002 x102003)) else (none)) else (none)) else (if x3 = true then (some 0) else (some 60))
end
def kernel_Check.f (k : Nat) (a0_0 : Int) (a0_1 : Int) (a0_2 : Int) (l0_3 : List (S66)) : Option (Int) := (kernel_in.f a0_0 2 7).bind fun t102 => (if t102 = true then ((kernel_in.f a0_1 1 3).bind fun t103 => (if t103 = true then ((kernel_in.f a0_2 2 16).bind fun t104 => (if t104 = true then (if (Int.tmod a0_2 2) = 0 then ((kernel_in.f (l0_3.length : Int) 1 5).bind fun t105 => (kernel_Check.j0 k t105 a0_0 a0_1 a0_2 l0_3)) else (kernel_Check.j0 k false a0_0 a0_1 a0_2 l0_3)) else (kernel_Check.j0 k false a0_0 a0_1 a0_2 l0_3))) else (kernel_Check.j0 k false a0_0 a0_1 a0_2 l0_3))) else (kernel_Check.j0 k false a0_0 a0_1 a0_2 l0_3))
set_option maxHeartbeats 8000000 in
set_option maxRecDepth 100000 in
theorem kernel_Check.calls (k : Nat) (a0_0 : Int) (a0_1 : Int) (a0_2 : Int) (A0_3 : Option Addr) (c0_3 : Nat) (l0_3 : List (S66)) (r : Int) (w : World) (hr0_3 : Kd.C k66 w A0_3 l0_3.length l0_3) (hc0_3 : l0_3.length ≤ c0_3) (h : kernel_Check.f k a0_0 a0_1 a0_2 l0_3 = some r) :
  Calls Tryd.prog 19 #[.agg #[.int .i64 a0_0, .int .i64 a0_1, .int .i64 a0_2, .slice A0_3 l0_3.length c0_3]] w fun e w' => e = .returned (.int .i64 r) ∧ Below w.heap.size w w' := by
 have hu24 := Tryd.underlying24
 have hu66 := Tryd.underlying66
 have HR0_3 := zh hr0_3
 have HC0_3 := zh hc0_3
 clear hr0_3 hc0_3
 have HB := zh (Below.refl w.heap.size w)
 have H : ((kernel_in.f a0_0 2 7).bind fun t102 => (if t102 = true then ((kernel_in.f a0_1 1 3).bind fun t103 => (if t103 = true then ((kernel_in.f a0_2 2 16).bind fun t104 => (if t104 = true then (if (Int.tmod a0_2 2) = 0 then ((kernel_in.f (l0_3.length : Int) 1 5).bind fun t105 => (kernel_Check.j0 k t105 a0_0 a0_1 a0_2 l0_3)) else (kernel_Check.j0 k false a0_0 a0_1 a0_2 l0_3)) else (kernel_Check.j0 k false a0_0 a0_1 a0_2 l0_3))) else (kernel_Check.j0 k false a0_0 a0_1 a0_2 l0_3))) else (kernel_Check.j0 k false a0_0 a0_1 a0_2 l0_3))) = some r := h
 clear h
 have HC2 := zh H
 clear H
 go_enter Tryd.func19, Tryd.ntmps19
 go_upto_region 1 with (first | ((with_reducible refine gate_dst (N := 1) rfl ?_); (try (refine gate_guard (by rfl) ?_; dsimp only)); refine box_event ?hg (N := 1) ?hd (cs := #[.int .i64 a0_0, .int .i64 a0_1, .int .i64 a0_2, .slice A0_3 l0_3.length c0_3]) (t := 24) ?hr ?_; (case hd => rfl); (case hg => rfl); (case hr => first | (go_simp; done) | (go_simp; rfl)); intro gb101 hg w3 hbox hb; have n0_ := zh (below_step zb hb); have n1_ := zh (hbox); have n2_ := zh ((by rw [hg]; exact (below_size zb) : w.heap.size ≤ gb101)); have n3_ := zh ((by rw [hg]; exact (below_size zb) : w.heap.size ≤ gb101)); clear HB; have HB := n0_; have BK101 := n1_; have GW101 := n2_; have GE101 := n3_; clear n0_ n1_ n2_ n3_; clear hb hbox hg))
 (try simp only [Act.put, List.setIfInBounds_toArray, List.set_cons_zero, List.set_cons_succ])
 go_cut [3] (fun v3 wc => ∃ (kq : Nat) (x3_1 : Bool), v3 = .bool x3_1 ∧ Aside0 (kernel_Check.j0 kq x3_1 a0_0 a0_1 a0_2 l0_3 = some r) ∧ Aside0 (kq ≤ k) ∧ Aside0 (wc.heap[gb101]? = some (.cells #[.int .i64 a0_0, .int .i64 a0_1, .int .i64 a0_2, (.slice A0_3 l0_3.length c0_3)] 24 (0, 0))) ∧ Aside0 (Below w.heap.size w wc))
 case first =>
  have H := HC2.out
  clear HC2
  replace H := Option.bind_eq_some_iff.mp H
  obtain ⟨t102, A40, H⟩ := H
  replace H : (if t102 = true then ((kernel_in.f a0_1 1 3).bind fun t103 => (if t103 = true then ((kernel_in.f a0_2 2 16).bind fun t104 => (if t104 = true then (if (Int.tmod a0_2 2) = 0 then ((kernel_in.f (l0_3.length : Int) 1 5).bind fun t105 => (kernel_Check.j0 k t105 a0_0 a0_1 a0_2 l0_3)) else (kernel_Check.j0 k false a0_0 a0_1 a0_2 l0_3)) else (kernel_Check.j0 k false a0_0 a0_1 a0_2 l0_3))) else (kernel_Check.j0 k false a0_0 a0_1 a0_2 l0_3))) else (kernel_Check.j0 k false a0_0 a0_1 a0_2 l0_3)) = some r := H
  have A4 := zh A40
  clear A40
  by_cases c5 : t102 = true
  ·subst c5
   have H1 : ((kernel_in.f a0_1 1 3).bind fun t103 => (if t103 = true then ((kernel_in.f a0_2 2 16).bind fun t104 => (if t104 = true then (if (Int.tmod a0_2 2) = 0 then ((kernel_in.f (l0_3.length : Int) 1 5).bind fun t105 => (kernel_Check.j0 k t105 a0_0 a0_1 a0_2 l0_3)) else (kernel_Check.j0 k false a0_0 a0_1 a0_2 l0_3)) else (kernel_Check.j0 k false a0_0 a0_1 a0_2 l0_3))) else (kernel_Check.j0 k false a0_0 a0_1 a0_2 l0_3))) = some r := by rw [if_pos rfl] at H; exact H
   clear H
   have H := H1
   clear H1
   replace H := Option.bind_eq_some_iff.mp H
   obtain ⟨t103, A60, H⟩ := H
   replace H : (if t103 = true then ((kernel_in.f a0_2 2 16).bind fun t104 => (if t104 = true then (if (Int.tmod a0_2 2) = 0 then ((kernel_in.f (l0_3.length : Int) 1 5).bind fun t105 => (kernel_Check.j0 k t105 a0_0 a0_1 a0_2 l0_3)) else (kernel_Check.j0 k false a0_0 a0_1 a0_2 l0_3)) else (kernel_Check.j0 k false a0_0 a0_1 a0_2 l0_3))) else (kernel_Check.j0 k false a0_0 a0_1 a0_2 l0_3)) = some r := H
   have A6 := zh A60
   clear A60
   by_cases c7 : t103 = true
   ·subst c7
    have H1 : ((kernel_in.f a0_2 2 16).bind fun t104 => (if t104 = true then (if (Int.tmod a0_2 2) = 0 then ((kernel_in.f (l0_3.length : Int) 1 5).bind fun t105 => (kernel_Check.j0 k t105 a0_0 a0_1 a0_2 l0_3)) else (kernel_Check.j0 k false a0_0 a0_1 a0_2 l0_3)) else (kernel_Check.j0 k false a0_0 a0_1 a0_2 l0_3))) = some r := by rw [if_pos rfl] at H; exact H
    clear H
    have H := H1
    clear H1
    replace H := Option.bind_eq_some_iff.mp H
    obtain ⟨t104, A80, H⟩ := H
    replace H : (if t104 = true then (if (Int.tmod a0_2 2) = 0 then ((kernel_in.f (l0_3.length : Int) 1 5).bind fun t105 => (kernel_Check.j0 k t105 a0_0 a0_1 a0_2 l0_3)) else (kernel_Check.j0 k false a0_0 a0_1 a0_2 l0_3)) else (kernel_Check.j0 k false a0_0 a0_1 a0_2 l0_3)) = some r := H
    have A8 := zh A80
    clear A80
    by_cases c9 : t104 = true
    ·subst c9
     have H1 : (if (Int.tmod a0_2 2) = 0 then ((kernel_in.f (l0_3.length : Int) 1 5).bind fun t105 => (kernel_Check.j0 k t105 a0_0 a0_1 a0_2 l0_3)) else (kernel_Check.j0 k false a0_0 a0_1 a0_2 l0_3)) = some r := by rw [if_pos rfl] at H; exact H
     clear H
     have H := H1
     clear H1
     by_cases c10 : (Int.tmod a0_2 2) = 0
     ·rw [if_pos c10] at H
      have c10b0 : ((Int.tmod a0_2 2) == 0) = true := beq_iff_eq.mpr c10
      have c10b1 : ((Int.tmod a0_2 2) != 0) = false := bne_eq_false_iff_eq.mpr c10
      clear c10
      (first | rw [c10b0] | (simp only [i64_w, i32_w]; rw [c10b0]) | skip)
      replace H := Option.bind_eq_some_iff.mp H
      obtain ⟨t105, A110, H⟩ := H
      replace H : (kernel_Check.j0 k t105 a0_0 a0_1 a0_2 l0_3) = some r := H
      have A11 := zh A110
      clear A110
      have H' := zh H
      clear H
      have hcz12_0 : w3.cell? ⟨gb101, 0, none⟩ = some (.int .i64 a0_0) := vb BK101 0
      have hcz12_1 : w3.cell? ⟨gb101, 1, none⟩ = some (.int .i64 a0_1) := vb BK101 1
      have hcz12_2 : w3.cell? ⟨gb101, 2, none⟩ = some (.int .i64 a0_2) := vb BK101 2
      have hcz12_3 : w3.cell? ⟨gb101, 3, none⟩ = some (.slice A0_3 l0_3.length c0_3) := vb BK101 3
      have hfz12_0 := blk_frozen BK101.out 0
      have hfz12_1 := blk_frozen BK101.out 1
      have hfz12_2 := blk_frozen BK101.out 2
      have hfz12_3 := blk_frozen BK101.out 3
      go_wp2_with (first | ((with_reducible refine gate_callee (f := 55) rfl ?_); refine goesL_ (some 8) rfl rfl Tryd.func55 zk rfl #[.int .i64 a0_0, .int .i64 2, .int .i64 7] rfl zm ?_; (with_reducible refine (kernel_in.calls a0_0 2 7 true _ A4.out).mono ?_); rintro e w' ⟨rfl, ⟨nd, rfl⟩⟩; refine ⟨_, rfl, ?_⟩) | (go_at_call 55; (with_reducible refine (kernel_in.calls a0_1 1 3 true _ A6.out).mono ?_); rintro e w' ⟨rfl, ⟨nd, rfl⟩⟩) | (go_at_call 55; (with_reducible refine (kernel_in.calls a0_2 2 16 true _ A8.out).mono ?_); rintro e w' ⟨rfl, ⟨nd, rfl⟩⟩) | (go_at_call 55; (with_reducible refine (kernel_in.calls (l0_3.length : Int) 1 5 t105 _ A11.out).mono ?_); rintro e w' ⟨rfl, ⟨nd, rfl⟩⟩))
      go_meet
      case rel => exact ⟨_, (t105), ze, H', ⟨zo1⟩, ⟨zc BK101⟩, ⟨zb⟩⟩
     ·rw [if_neg c10] at H
      have c10b0 : ((Int.tmod a0_2 2) == 0) = false := beq_eq_false_iff_ne.mpr c10
      have c10b1 : ((Int.tmod a0_2 2) != 0) = true := bne_iff_ne.mpr c10
      (first | rw [c10b0] | (simp only [i64_w, i32_w]; rw [c10b0]) | skip)
      have H' := zh H
      clear H
      have hcz13_0 : w3.cell? ⟨gb101, 0, none⟩ = some (.int .i64 a0_0) := vb BK101 0
      have hcz13_1 : w3.cell? ⟨gb101, 1, none⟩ = some (.int .i64 a0_1) := vb BK101 1
      have hcz13_2 : w3.cell? ⟨gb101, 2, none⟩ = some (.int .i64 a0_2) := vb BK101 2
      have hcz13_3 : w3.cell? ⟨gb101, 3, none⟩ = some (.slice A0_3 l0_3.length c0_3) := vb BK101 3
      have hfz13_0 := blk_frozen BK101.out 0
      have hfz13_1 := blk_frozen BK101.out 1
      have hfz13_2 := blk_frozen BK101.out 2
      have hfz13_3 := blk_frozen BK101.out 3
      go_wp2_with (first | ((with_reducible refine gate_callee (f := 55) rfl ?_); refine goesL_ (some 8) rfl rfl Tryd.func55 zk rfl #[.int .i64 a0_0, .int .i64 2, .int .i64 7] rfl zm ?_; (with_reducible refine (kernel_in.calls a0_0 2 7 true _ A4.out).mono ?_); rintro e w' ⟨rfl, ⟨nd, rfl⟩⟩; refine ⟨_, rfl, ?_⟩) | (go_at_call 55; (with_reducible refine (kernel_in.calls a0_1 1 3 true _ A6.out).mono ?_); rintro e w' ⟨rfl, ⟨nd, rfl⟩⟩) | (go_at_call 55; (with_reducible refine (kernel_in.calls a0_2 2 16 true _ A8.out).mono ?_); rintro e w' ⟨rfl, ⟨nd, rfl⟩⟩))
      go_meet
      case rel => exact ⟨_, (false), ze, H', ⟨zo1⟩, ⟨zc BK101⟩, ⟨zb⟩⟩
    ·replace c9 := Bool.eq_false_iff.mpr c9
     subst c9
     have H1 : (kernel_Check.j0 k false a0_0 a0_1 a0_2 l0_3) = some r := by rw [if_neg (show ¬ (false = true) by decide)] at H; exact H
     clear H
     have H := H1
     clear H1
     have H' := zh H
     clear H
     have hcz14_0 : w3.cell? ⟨gb101, 0, none⟩ = some (.int .i64 a0_0) := vb BK101 0
     have hcz14_1 : w3.cell? ⟨gb101, 1, none⟩ = some (.int .i64 a0_1) := vb BK101 1
     have hcz14_2 : w3.cell? ⟨gb101, 2, none⟩ = some (.int .i64 a0_2) := vb BK101 2
     have hcz14_3 : w3.cell? ⟨gb101, 3, none⟩ = some (.slice A0_3 l0_3.length c0_3) := vb BK101 3
     have hfz14_0 := blk_frozen BK101.out 0
     have hfz14_1 := blk_frozen BK101.out 1
     have hfz14_2 := blk_frozen BK101.out 2
     have hfz14_3 := blk_frozen BK101.out 3
     go_wp2_with (first | ((with_reducible refine gate_callee (f := 55) rfl ?_); refine goesL_ (some 8) rfl rfl Tryd.func55 zk rfl #[.int .i64 a0_0, .int .i64 2, .int .i64 7] rfl zm ?_; (with_reducible refine (kernel_in.calls a0_0 2 7 true _ A4.out).mono ?_); rintro e w' ⟨rfl, ⟨nd, rfl⟩⟩; refine ⟨_, rfl, ?_⟩) | (go_at_call 55; (with_reducible refine (kernel_in.calls a0_1 1 3 true _ A6.out).mono ?_); rintro e w' ⟨rfl, ⟨nd, rfl⟩⟩) | (go_at_call 55; (with_reducible refine (kernel_in.calls a0_2 2 16 false _ A8.out).mono ?_); rintro e w' ⟨rfl, ⟨nd, rfl⟩⟩))
     go_meet
     case rel => exact ⟨_, (false), ze, H', ⟨zo1⟩, ⟨zc BK101⟩, ⟨zb⟩⟩
   ·replace c7 := Bool.eq_false_iff.mpr c7
    subst c7
    have H1 : (kernel_Check.j0 k false a0_0 a0_1 a0_2 l0_3) = some r := by rw [if_neg (show ¬ (false = true) by decide)] at H; exact H
    clear H
    have H := H1
    clear H1
    have H' := zh H
    clear H
    have hcz15_0 : w3.cell? ⟨gb101, 0, none⟩ = some (.int .i64 a0_0) := vb BK101 0
    have hcz15_1 : w3.cell? ⟨gb101, 1, none⟩ = some (.int .i64 a0_1) := vb BK101 1
    have hcz15_2 : w3.cell? ⟨gb101, 2, none⟩ = some (.int .i64 a0_2) := vb BK101 2
    have hcz15_3 : w3.cell? ⟨gb101, 3, none⟩ = some (.slice A0_3 l0_3.length c0_3) := vb BK101 3
    have hfz15_0 := blk_frozen BK101.out 0
    have hfz15_1 := blk_frozen BK101.out 1
    have hfz15_2 := blk_frozen BK101.out 2
    have hfz15_3 := blk_frozen BK101.out 3
    go_wp2_with (first | ((with_reducible refine gate_callee (f := 55) rfl ?_); refine goesL_ (some 8) rfl rfl Tryd.func55 zk rfl #[.int .i64 a0_0, .int .i64 2, .int .i64 7] rfl zm ?_; (with_reducible refine (kernel_in.calls a0_0 2 7 true _ A4.out).mono ?_); rintro e w' ⟨rfl, ⟨nd, rfl⟩⟩; refine ⟨_, rfl, ?_⟩) | (go_at_call 55; (with_reducible refine (kernel_in.calls a0_1 1 3 false _ A6.out).mono ?_); rintro e w' ⟨rfl, ⟨nd, rfl⟩⟩))
    go_meet
    case rel => exact ⟨_, (false), ze, H', ⟨zo1⟩, ⟨zc BK101⟩, ⟨zb⟩⟩
  ·replace c5 := Bool.eq_false_iff.mpr c5
   subst c5
   have H1 : (kernel_Check.j0 k false a0_0 a0_1 a0_2 l0_3) = some r := by rw [if_neg (show ¬ (false = true) by decide)] at H; exact H
   clear H
   have H := H1
   clear H1
   have H' := zh H
   clear H
   have hcz16_0 : w3.cell? ⟨gb101, 0, none⟩ = some (.int .i64 a0_0) := vb BK101 0
   have hcz16_1 : w3.cell? ⟨gb101, 1, none⟩ = some (.int .i64 a0_1) := vb BK101 1
   have hcz16_2 : w3.cell? ⟨gb101, 2, none⟩ = some (.int .i64 a0_2) := vb BK101 2
   have hcz16_3 : w3.cell? ⟨gb101, 3, none⟩ = some (.slice A0_3 l0_3.length c0_3) := vb BK101 3
   have hfz16_0 := blk_frozen BK101.out 0
   have hfz16_1 := blk_frozen BK101.out 1
   have hfz16_2 := blk_frozen BK101.out 2
   have hfz16_3 := blk_frozen BK101.out 3
   go_wp2_with (first | ((with_reducible refine gate_callee (f := 55) rfl ?_); refine goesL_ (some 8) rfl rfl Tryd.func55 zk rfl #[.int .i64 a0_0, .int .i64 2, .int .i64 7] rfl zm ?_; (with_reducible refine (kernel_in.calls a0_0 2 7 false _ A4.out).mono ?_); rintro e w' ⟨rfl, ⟨nd, rfl⟩⟩; refine ⟨_, rfl, ?_⟩))
   go_meet
   case rel => exact ⟨_, (false), ze, H', ⟨zo1⟩, ⟨zc BK101⟩, ⟨zb⟩⟩
 case rest =>
  clear HC2
  try clear c1
  try clear p2
  try clear c5
  try clear c7
  try clear c9
  try clear c10
  try clear c10b0
  try clear c10b1
  try clear hcz12_0
  try clear hcz12_1
  try clear hcz12_2
  try clear hcz12_3
  try clear hcz13_0
  try clear hcz13_1
  try clear hcz13_2
  try clear hcz13_3
  try clear hcz14_0
  try clear hcz14_1
  try clear hcz14_2
  try clear hcz14_3
  try clear hcz15_0
  try clear hcz15_1
  try clear hcz15_2
  try clear hcz15_3
  try clear hcz16_0
  try clear hcz16_1
  try clear hcz16_2
  try clear hcz16_3
  try clear hfz12_0
  try clear hfz12_1
  try clear hfz12_2
  try clear hfz12_3
  try clear hfz13_0
  try clear hfz13_1
  try clear hfz13_2
  try clear hfz13_3
  try clear hfz14_0
  try clear hfz14_1
  try clear hfz14_2
  try clear hfz14_3
  try clear hfz15_0
  try clear hfz15_1
  try clear hfz15_2
  try clear hfz15_3
  try clear hfz16_0
  try clear hfz16_1
  try clear hfz16_2
  try clear hfz16_3
  obtain ⟨kq, x3_1, rfl, HA, HJ1, BK101, HB⟩ := hcut
  cases kq with
  | zero => exact absurd HA.out (by simp [kernel_Check.j0])
  | succ kj1 =>
   have H := HA.out
   clear HA
   simp only [kernel_Check.j0] at H
   have H' := zh H
   clear H
   have hcz17_0 : wc.cell? ⟨gb101, 0, none⟩ = some (.int .i64 a0_0) := vb BK101 0
   have hcz17_1 : wc.cell? ⟨gb101, 1, none⟩ = some (.int .i64 a0_1) := vb BK101 1
   have hcz17_2 : wc.cell? ⟨gb101, 2, none⟩ = some (.int .i64 a0_2) := vb BK101 2
   have hcz17_3 : wc.cell? ⟨gb101, 3, none⟩ = some (.slice A0_3 l0_3.length c0_3) := vb BK101 3
   have hfz17_0 := blk_frozen BK101.out 0
   have hfz17_1 := blk_frozen BK101.out 1
   have hfz17_2 := blk_frozen BK101.out 2
   have hfz17_3 := blk_frozen BK101.out 3
   go_wp2
   go_loopg [3, 34] kj1 (fun kq v3 v34 w' => ∃ (x3_2 : Bool) (x34_2 : Int), v3 = .bool x3_2 ∧ v34 = .int .i64 x34_2 ∧ Aside0 (kernel_Check.l0 kq x3_2 l0_3 (l0_3.length : Int) x34_2 a0_0 a0_1 a0_2 l0_3 = some r) ∧ Aside0 (kq ≤ kj1) ∧ Aside0 (w'.heap[gb101]? = some (.cells #[.int .i64 a0_0, .int .i64 a0_1, .int .i64 a0_2, (.slice A0_3 l0_3.length c0_3)] 24 (0, 0))) ∧ Aside0 (Below w.heap.size w w'))
   case atStart => exact ⟨(x3_1), (0), ze, ze, H', ⟨Nat.le_refl _⟩, ⟨zc BK101⟩, ⟨zb⟩⟩
   case round =>
    clear H'
    try clear c1
    try clear p2
    try clear c5
    try clear c7
    try clear c9
    try clear c10
    try clear c10b0
    try clear c10b1
    try clear hcz12_0
    try clear hcz12_1
    try clear hcz12_2
    try clear hcz12_3
    try clear hcz13_0
    try clear hcz13_1
    try clear hcz13_2
    try clear hcz13_3
    try clear hcz14_0
    try clear hcz14_1
    try clear hcz14_2
    try clear hcz14_3
    try clear hcz15_0
    try clear hcz15_1
    try clear hcz15_2
    try clear hcz15_3
    try clear hcz16_0
    try clear hcz16_1
    try clear hcz16_2
    try clear hcz16_3
    try clear hcz17_0
    try clear hcz17_1
    try clear hcz17_2
    try clear hcz17_3
    try clear hfz12_0
    try clear hfz12_1
    try clear hfz12_2
    try clear hfz12_3
    try clear hfz13_0
    try clear hfz13_1
    try clear hfz13_2
    try clear hfz13_3
    try clear hfz14_0
    try clear hfz14_1
    try clear hfz14_2
    try clear hfz14_3
    try clear hfz15_0
    try clear hfz15_1
    try clear hfz15_2
    try clear hfz15_3
    try clear hfz16_0
    try clear hfz16_1
    try clear hfz16_2
    try clear hfz16_3
    try clear hfz17_0
    try clear hfz17_1
    try clear hfz17_2
    try clear hfz17_3
    try clear p2
    obtain ⟨x3_2, x34_2, rfl, rfl, HA, HK2, BK101, HB⟩ := hrel
    cases gk with
    | zero => exact absurd HA.out (by simp [kernel_Check.l0])
    | succ k2 =>
     have H := HA.out
     clear HA
     simp only [kernel_Check.l0] at H
     by_cases c18 : x34_2 < (l0_3.length : Int)
     ·rw [if_pos c18] at H
      have c18b0 : decide (x34_2 < (l0_3.length : Int)) = true := decide_eq_true c18
      clear c18
      by_cases c19 : 0 ≤ x34_2
      ·rw [if_pos c19] at H
       have c19b0 : decide (0 ≤ x34_2) = true := decide_eq_true c19
       clear c19
       by_cases c20 : x34_2 < (l0_3.length : Int)
       ·rw [if_pos c20] at H
        have c20b0 : decide (x34_2 < (l0_3.length : Int)) = true := decide_eq_true c20
        clear c20
        by_cases c21 : x3_2 = true
        ·subst c21
         have H1 : ((kernel_in.f ((rd_T66 l0_3 x34_2).f0) 0 4).bind fun t108 => (if t108 = true then ((kernel_in.f ((rd_T66 l0_3 x34_2).f1) 0 ((rd_T66 l0_3 x34_2).f2)).bind fun t109 => (if t109 = true then ((kernel_in.f ((rd_T66 l0_3 x34_2).f2) 0 (wrap64 ((wrap64 (a0_0 * a0_1)) - 1))).bind fun t110 => (if t110 = true then ((kernel_in.f ((rd_T66 l0_3 x34_2).f3) (-6) 6).bind fun t111 => (kernel_Check.l0 k2 t111 l0_3 (l0_3.length : Int) (wrap64 (x34_2 + 1)) a0_0 a0_1 a0_2 l0_3)) else (kernel_Check.l0 k2 false l0_3 (l0_3.length : Int) (wrap64 (x34_2 + 1)) a0_0 a0_1 a0_2 l0_3))) else (kernel_Check.l0 k2 false l0_3 (l0_3.length : Int) (wrap64 (x34_2 + 1)) a0_0 a0_1 a0_2 l0_3))) else (kernel_Check.l0 k2 false l0_3 (l0_3.length : Int) (wrap64 (x34_2 + 1)) a0_0 a0_1 a0_2 l0_3))) = some r := by rw [if_pos rfl] at H; exact H
         clear H
         have H := H1
         clear H1
         replace H := Option.bind_eq_some_iff.mp H
         obtain ⟨t108, A220, H⟩ := H
         replace H : (if t108 = true then ((kernel_in.f ((rd_T66 l0_3 x34_2).f1) 0 ((rd_T66 l0_3 x34_2).f2)).bind fun t109 => (if t109 = true then ((kernel_in.f ((rd_T66 l0_3 x34_2).f2) 0 (wrap64 ((wrap64 (a0_0 * a0_1)) - 1))).bind fun t110 => (if t110 = true then ((kernel_in.f ((rd_T66 l0_3 x34_2).f3) (-6) 6).bind fun t111 => (kernel_Check.l0 k2 t111 l0_3 (l0_3.length : Int) (wrap64 (x34_2 + 1)) a0_0 a0_1 a0_2 l0_3)) else (kernel_Check.l0 k2 false l0_3 (l0_3.length : Int) (wrap64 (x34_2 + 1)) a0_0 a0_1 a0_2 l0_3))) else (kernel_Check.l0 k2 false l0_3 (l0_3.length : Int) (wrap64 (x34_2 + 1)) a0_0 a0_1 a0_2 l0_3))) else (kernel_Check.l0 k2 false l0_3 (l0_3.length : Int) (wrap64 (x34_2 + 1)) a0_0 a0_1 a0_2 l0_3)) = some r := H
         have A22 := zh A220
         clear A220
         by_cases c23 : t108 = true
         ·subst c23
          have H1 : ((kernel_in.f ((rd_T66 l0_3 x34_2).f1) 0 ((rd_T66 l0_3 x34_2).f2)).bind fun t109 => (if t109 = true then ((kernel_in.f ((rd_T66 l0_3 x34_2).f2) 0 (wrap64 ((wrap64 (a0_0 * a0_1)) - 1))).bind fun t110 => (if t110 = true then ((kernel_in.f ((rd_T66 l0_3 x34_2).f3) (-6) 6).bind fun t111 => (kernel_Check.l0 k2 t111 l0_3 (l0_3.length : Int) (wrap64 (x34_2 + 1)) a0_0 a0_1 a0_2 l0_3)) else (kernel_Check.l0 k2 false l0_3 (l0_3.length : Int) (wrap64 (x34_2 + 1)) a0_0 a0_1 a0_2 l0_3))) else (kernel_Check.l0 k2 false l0_3 (l0_3.length : Int) (wrap64 (x34_2 + 1)) a0_0 a0_1 a0_2 l0_3))) = some r := by rw [if_pos rfl] at H; exact H
          clear H
          have H := H1
          clear H1
          replace H := Option.bind_eq_some_iff.mp H
          obtain ⟨t109, A240, H⟩ := H
          replace H : (if t109 = true then ((kernel_in.f ((rd_T66 l0_3 x34_2).f2) 0 (wrap64 ((wrap64 (a0_0 * a0_1)) - 1))).bind fun t110 => (if t110 = true then ((kernel_in.f ((rd_T66 l0_3 x34_2).f3) (-6) 6).bind fun t111 => (kernel_Check.l0 k2 t111 l0_3 (l0_3.length : Int) (wrap64 (x34_2 + 1)) a0_0 a0_1 a0_2 l0_3)) else (kernel_Check.l0 k2 false l0_3 (l0_3.length : Int) (wrap64 (x34_2 + 1)) a0_0 a0_1 a0_2 l0_3))) else (kernel_Check.l0 k2 false l0_3 (l0_3.length : Int) (wrap64 (x34_2 + 1)) a0_0 a0_1 a0_2 l0_3)) = some r := H
          have A24 := zh A240
          clear A240
          by_cases c25 : t109 = true
          ·subst c25
           have H1 : ((kernel_in.f ((rd_T66 l0_3 x34_2).f2) 0 (wrap64 ((wrap64 (a0_0 * a0_1)) - 1))).bind fun t110 => (if t110 = true then ((kernel_in.f ((rd_T66 l0_3 x34_2).f3) (-6) 6).bind fun t111 => (kernel_Check.l0 k2 t111 l0_3 (l0_3.length : Int) (wrap64 (x34_2 + 1)) a0_0 a0_1 a0_2 l0_3)) else (kernel_Check.l0 k2 false l0_3 (l0_3.length : Int) (wrap64 (x34_2 + 1)) a0_0 a0_1 a0_2 l0_3))) = some r := by rw [if_pos rfl] at H; exact H
           clear H
           have H := H1
           clear H1
           replace H := Option.bind_eq_some_iff.mp H
           obtain ⟨t110, A260, H⟩ := H
           replace H : (if t110 = true then ((kernel_in.f ((rd_T66 l0_3 x34_2).f3) (-6) 6).bind fun t111 => (kernel_Check.l0 k2 t111 l0_3 (l0_3.length : Int) (wrap64 (x34_2 + 1)) a0_0 a0_1 a0_2 l0_3)) else (kernel_Check.l0 k2 false l0_3 (l0_3.length : Int) (wrap64 (x34_2 + 1)) a0_0 a0_1 a0_2 l0_3)) = some r := H
           have A26 := zh A260
           clear A260
           by_cases c27 : t110 = true
           ·subst c27
            have H1 : ((kernel_in.f ((rd_T66 l0_3 x34_2).f3) (-6) 6).bind fun t111 => (kernel_Check.l0 k2 t111 l0_3 (l0_3.length : Int) (wrap64 (x34_2 + 1)) a0_0 a0_1 a0_2 l0_3)) = some r := by rw [if_pos rfl] at H; exact H
            clear H
            have H := H1
            clear H1
            replace H := Option.bind_eq_some_iff.mp H
            obtain ⟨t111, A280, H⟩ := H
            replace H : (kernel_Check.l0 k2 t111 l0_3 (l0_3.length : Int) (wrap64 (x34_2 + 1)) a0_0 a0_1 a0_2 l0_3) = some r := H
            have A28 := zh A280
            clear A280
            have H' := zh H
            clear H
            have p106 : 0 ≤ (x34_2 : Int) := of_decide_eq_true zs
            have q106 : x34_2 < (l0_3.length : Int) := of_decide_eq_true zs
            obtain ⟨ad106, e106, hx106_0, hx106_1, hx106_2, hx106_3⟩ := at_T66 HR0_3.out x34_2 p106 q106
            cases e106
            replace hx106_0 := ve HB.out hx106_0
            replace hx106_1 := ve HB.out hx106_1
            replace hx106_2 := ve HB.out hx106_2
            replace hx106_3 := ve HB.out hx106_3
            replace p106 := eq_true p106
            replace q106 := eq_true q106
            go_wp2_with (first | ((with_reducible refine gate_dst (N := 5) rfl ?_); (try (refine gate_guard (by rfl) ?_; dsimp only)); refine box_event ?hg (N := 5) ?hd (cs := #[.int .i64 0, .int .i64 0, .int .i64 0, .int .i64 0]) (t := 66) ?hr ?_; (case hd => rfl); (case hg => rfl); (case hr => first | (go_simp; done) | (go_simp; rfl)); intro gb107 hg w29 hbox hb; have n0_ := zh (blk_below (g := gb101) (o := .cells #[.int .i64 a0_0, .int .i64 a0_1, .int .i64 a0_2, .slice (some ad106) l0_3.length c0_3] 24 (0, 0)) (zc BK101) hb); have n1_ := zh (below_step zb hb); have n2_ := zh (hbox); have n3_ := zh ((by rw [hg]; exact (below_size zb) : w.heap.size ≤ gb107)); have n4_ := zh ((by rw [hg]; exact (below_size zb) : w.heap.size ≤ gb107)); have n5_ := zh ((by rw [hg]; exact Nat.ne_of_lt (blk_lt (g := gb101) (o := .cells #[.int .i64 a0_0, .int .i64 a0_1, .int .i64 a0_2, .slice (some ad106) l0_3.length c0_3] 24 (0, 0)) (zc BK101)) : gb101 ≠ gb107)); have n6_ := zh ((by rw [hg]; exact Nat.ne_of_gt (blk_lt (g := gb101) (o := .cells #[.int .i64 a0_0, .int .i64 a0_1, .int .i64 a0_2, .slice (some ad106) l0_3.length c0_3] 24 (0, 0)) (zc BK101)) : gb107 ≠ gb101)); clear BK101; clear HB; have BK101 := n0_; have HB := n1_; have BK107 := n2_; have GW107 := n3_; have GE107 := n4_; have NB101_107 := n5_; have NB107_101 := n6_; clear n0_ n1_ n2_ n3_ n4_ n5_ n6_; clear hb hbox hg; have hnb30 := NB107_101.out; have hnc30 := NB101_107.out; have hcz31_0 : w29.cell? ⟨gb107, 0, none⟩ = some (.int .i64 0) := vb BK107 0; have hcz31_1 : w29.cell? ⟨gb107, 1, none⟩ = some (.int .i64 0) := vb BK107 1; have hcz31_2 : w29.cell? ⟨gb107, 2, none⟩ = some (.int .i64 0) := vb BK107 2; have hcz31_3 : w29.cell? ⟨gb107, 3, none⟩ = some (.int .i64 0) := vb BK107 3; have hfz31_0 := blk_frozen BK107.out 0; have hfz31_1 := blk_frozen BK107.out 1; have hfz31_2 := blk_frozen BK107.out 2; have hfz31_3 := blk_frozen BK107.out 3) | (go_at_call 55; (with_reducible refine (kernel_in.calls ((rd_T66 l0_3 x34_2).f0) 0 4 true _ A22.out).mono ?_); rintro e w' ⟨rfl, ⟨nd, rfl⟩⟩) | (go_at_call 55; (with_reducible refine (kernel_in.calls ((rd_T66 l0_3 x34_2).f1) 0 ((rd_T66 l0_3 x34_2).f2) true _ A24.out).mono ?_); rintro e w' ⟨rfl, ⟨nd, rfl⟩⟩; have hcz32_0 : w29.cell? ⟨gb101, 0, none⟩ = some (.int .i64 a0_0) := vb BK101 0; have hcz32_1 : w29.cell? ⟨gb101, 1, none⟩ = some (.int .i64 a0_1) := vb BK101 1; have hcz32_2 : w29.cell? ⟨gb101, 2, none⟩ = some (.int .i64 a0_2) := vb BK101 2; have hcz32_3 : w29.cell? ⟨gb101, 3, none⟩ = some (.slice (some ad106) l0_3.length c0_3) := vb BK101 3; have hfz32_0 := blk_frozen BK101.out 0; have hfz32_1 := blk_frozen BK101.out 1; have hfz32_2 := blk_frozen BK101.out 2; have hfz32_3 := blk_frozen BK101.out 3) | (go_at_call 55; (with_reducible refine (kernel_in.calls ((rd_T66 l0_3 x34_2).f2) 0 (wrap64 ((wrap64 (a0_0 * a0_1)) - 1)) true _ A26.out).mono ?_); rintro e w' ⟨rfl, ⟨nd, rfl⟩⟩) | (go_at_call 55; (with_reducible refine (kernel_in.calls ((rd_T66 l0_3 x34_2).f3) (-6) 6 t111 _ A28.out).mono ?_); rintro e w' ⟨rfl, ⟨nd, rfl⟩⟩))
            go_roundg k2
            case measure => have := HJ1.out; have := HK2.out; omega
            case rel => exact ⟨(t111), (wrap64 (x34_2 + 1)), ze, ze, H', ⟨zw HJ1 HK2⟩, ⟨by (with_reducible repeat (first | refine blk_drewN ?_ _ | refine blk_drew ?_ | refine blk_alloc ?_ _)); refine blk_far ?_ NB101_107.out _; (with_reducible repeat (first | refine blk_drewN ?_ _ | refine blk_drew ?_ | refine blk_alloc ?_ _)); refine blk_far ?_ NB101_107.out _; (with_reducible repeat (first | refine blk_drewN ?_ _ | refine blk_drew ?_ | refine blk_alloc ?_ _)); refine blk_far ?_ NB101_107.out _; (with_reducible repeat (first | refine blk_drewN ?_ _ | refine blk_drew ?_ | refine blk_alloc ?_ _)); refine blk_far ?_ NB101_107.out _; (with_reducible repeat (first | refine blk_drewN ?_ _ | refine blk_drew ?_ | refine blk_alloc ?_ _)); exact BK101.out⟩, ⟨zb⟩⟩
           ·replace c27 := Bool.eq_false_iff.mpr c27
            subst c27
            have H1 : (kernel_Check.l0 k2 false l0_3 (l0_3.length : Int) (wrap64 (x34_2 + 1)) a0_0 a0_1 a0_2 l0_3) = some r := by rw [if_neg (show ¬ (false = true) by decide)] at H; exact H
            clear H
            have H := H1
            clear H1
            have H' := zh H
            clear H
            have p106 : 0 ≤ (x34_2 : Int) := of_decide_eq_true zs
            have q106 : x34_2 < (l0_3.length : Int) := of_decide_eq_true zs
            obtain ⟨ad106, e106, hx106_0, hx106_1, hx106_2, hx106_3⟩ := at_T66 HR0_3.out x34_2 p106 q106
            cases e106
            replace hx106_0 := ve HB.out hx106_0
            replace hx106_1 := ve HB.out hx106_1
            replace hx106_2 := ve HB.out hx106_2
            replace hx106_3 := ve HB.out hx106_3
            replace p106 := eq_true p106
            replace q106 := eq_true q106
            go_wp2_with (first | ((with_reducible refine gate_dst (N := 5) rfl ?_); (try (refine gate_guard (by rfl) ?_; dsimp only)); refine box_event ?hg (N := 5) ?hd (cs := #[.int .i64 0, .int .i64 0, .int .i64 0, .int .i64 0]) (t := 66) ?hr ?_; (case hd => rfl); (case hg => rfl); (case hr => first | (go_simp; done) | (go_simp; rfl)); intro gb107 hg w33 hbox hb; have n0_ := zh (blk_below (g := gb101) (o := .cells #[.int .i64 a0_0, .int .i64 a0_1, .int .i64 a0_2, .slice (some ad106) l0_3.length c0_3] 24 (0, 0)) (zc BK101) hb); have n1_ := zh (below_step zb hb); have n2_ := zh (hbox); have n3_ := zh ((by rw [hg]; exact (below_size zb) : w.heap.size ≤ gb107)); have n4_ := zh ((by rw [hg]; exact (below_size zb) : w.heap.size ≤ gb107)); have n5_ := zh ((by rw [hg]; exact Nat.ne_of_lt (blk_lt (g := gb101) (o := .cells #[.int .i64 a0_0, .int .i64 a0_1, .int .i64 a0_2, .slice (some ad106) l0_3.length c0_3] 24 (0, 0)) (zc BK101)) : gb101 ≠ gb107)); have n6_ := zh ((by rw [hg]; exact Nat.ne_of_gt (blk_lt (g := gb101) (o := .cells #[.int .i64 a0_0, .int .i64 a0_1, .int .i64 a0_2, .slice (some ad106) l0_3.length c0_3] 24 (0, 0)) (zc BK101)) : gb107 ≠ gb101)); clear BK101; clear HB; have BK101 := n0_; have HB := n1_; have BK107 := n2_; have GW107 := n3_; have GE107 := n4_; have NB101_107 := n5_; have NB107_101 := n6_; clear n0_ n1_ n2_ n3_ n4_ n5_ n6_; clear hb hbox hg; have hnb34 := NB107_101.out; have hnc34 := NB101_107.out; have hcz35_0 : w33.cell? ⟨gb107, 0, none⟩ = some (.int .i64 0) := vb BK107 0; have hcz35_1 : w33.cell? ⟨gb107, 1, none⟩ = some (.int .i64 0) := vb BK107 1; have hcz35_2 : w33.cell? ⟨gb107, 2, none⟩ = some (.int .i64 0) := vb BK107 2; have hcz35_3 : w33.cell? ⟨gb107, 3, none⟩ = some (.int .i64 0) := vb BK107 3; have hfz35_0 := blk_frozen BK107.out 0; have hfz35_1 := blk_frozen BK107.out 1; have hfz35_2 := blk_frozen BK107.out 2; have hfz35_3 := blk_frozen BK107.out 3) | (go_at_call 55; (with_reducible refine (kernel_in.calls ((rd_T66 l0_3 x34_2).f0) 0 4 true _ A22.out).mono ?_); rintro e w' ⟨rfl, ⟨nd, rfl⟩⟩) | (go_at_call 55; (with_reducible refine (kernel_in.calls ((rd_T66 l0_3 x34_2).f1) 0 ((rd_T66 l0_3 x34_2).f2) true _ A24.out).mono ?_); rintro e w' ⟨rfl, ⟨nd, rfl⟩⟩; have hcz36_0 : w33.cell? ⟨gb101, 0, none⟩ = some (.int .i64 a0_0) := vb BK101 0; have hcz36_1 : w33.cell? ⟨gb101, 1, none⟩ = some (.int .i64 a0_1) := vb BK101 1; have hcz36_2 : w33.cell? ⟨gb101, 2, none⟩ = some (.int .i64 a0_2) := vb BK101 2; have hcz36_3 : w33.cell? ⟨gb101, 3, none⟩ = some (.slice (some ad106) l0_3.length c0_3) := vb BK101 3; have hfz36_0 := blk_frozen BK101.out 0; have hfz36_1 := blk_frozen BK101.out 1; have hfz36_2 := blk_frozen BK101.out 2; have hfz36_3 := blk_frozen BK101.out 3) | (go_at_call 55; (with_reducible refine (kernel_in.calls ((rd_T66 l0_3 x34_2).f2) 0 (wrap64 ((wrap64 (a0_0 * a0_1)) - 1)) false _ A26.out).mono ?_); rintro e w' ⟨rfl, ⟨nd, rfl⟩⟩))
            go_roundg k2
            case measure => have := HJ1.out; have := HK2.out; omega
            case rel => exact ⟨(false), (wrap64 (x34_2 + 1)), ze, ze, H', ⟨zw HJ1 HK2⟩, ⟨by (with_reducible repeat (first | refine blk_drewN ?_ _ | refine blk_drew ?_ | refine blk_alloc ?_ _)); refine blk_far ?_ NB101_107.out _; (with_reducible repeat (first | refine blk_drewN ?_ _ | refine blk_drew ?_ | refine blk_alloc ?_ _)); refine blk_far ?_ NB101_107.out _; (with_reducible repeat (first | refine blk_drewN ?_ _ | refine blk_drew ?_ | refine blk_alloc ?_ _)); refine blk_far ?_ NB101_107.out _; (with_reducible repeat (first | refine blk_drewN ?_ _ | refine blk_drew ?_ | refine blk_alloc ?_ _)); refine blk_far ?_ NB101_107.out _; (with_reducible repeat (first | refine blk_drewN ?_ _ | refine blk_drew ?_ | refine blk_alloc ?_ _)); exact BK101.out⟩, ⟨zb⟩⟩
          ·replace c25 := Bool.eq_false_iff.mpr c25
           subst c25
           have H1 : (kernel_Check.l0 k2 false l0_3 (l0_3.length : Int) (wrap64 (x34_2 + 1)) a0_0 a0_1 a0_2 l0_3) = some r := by rw [if_neg (show ¬ (false = true) by decide)] at H; exact H
           clear H
           have H := H1
           clear H1
           have H' := zh H
           clear H
           have p106 : 0 ≤ (x34_2 : Int) := of_decide_eq_true zs
           have q106 : x34_2 < (l0_3.length : Int) := of_decide_eq_true zs
           obtain ⟨ad106, e106, hx106_0, hx106_1, hx106_2, hx106_3⟩ := at_T66 HR0_3.out x34_2 p106 q106
           cases e106
           replace hx106_0 := ve HB.out hx106_0
           replace hx106_1 := ve HB.out hx106_1
           replace hx106_2 := ve HB.out hx106_2
           replace hx106_3 := ve HB.out hx106_3
           replace p106 := eq_true p106
           replace q106 := eq_true q106
           go_wp2_with (first | ((with_reducible refine gate_dst (N := 5) rfl ?_); (try (refine gate_guard (by rfl) ?_; dsimp only)); refine box_event ?hg (N := 5) ?hd (cs := #[.int .i64 0, .int .i64 0, .int .i64 0, .int .i64 0]) (t := 66) ?hr ?_; (case hd => rfl); (case hg => rfl); (case hr => first | (go_simp; done) | (go_simp; rfl)); intro gb107 hg w37 hbox hb; have n0_ := zh (blk_below (g := gb101) (o := .cells #[.int .i64 a0_0, .int .i64 a0_1, .int .i64 a0_2, .slice (some ad106) l0_3.length c0_3] 24 (0, 0)) (zc BK101) hb); have n1_ := zh (below_step zb hb); have n2_ := zh (hbox); have n3_ := zh ((by rw [hg]; exact (below_size zb) : w.heap.size ≤ gb107)); have n4_ := zh ((by rw [hg]; exact (below_size zb) : w.heap.size ≤ gb107)); have n5_ := zh ((by rw [hg]; exact Nat.ne_of_lt (blk_lt (g := gb101) (o := .cells #[.int .i64 a0_0, .int .i64 a0_1, .int .i64 a0_2, .slice (some ad106) l0_3.length c0_3] 24 (0, 0)) (zc BK101)) : gb101 ≠ gb107)); have n6_ := zh ((by rw [hg]; exact Nat.ne_of_gt (blk_lt (g := gb101) (o := .cells #[.int .i64 a0_0, .int .i64 a0_1, .int .i64 a0_2, .slice (some ad106) l0_3.length c0_3] 24 (0, 0)) (zc BK101)) : gb107 ≠ gb101)); clear BK101; clear HB; have BK101 := n0_; have HB := n1_; have BK107 := n2_; have GW107 := n3_; have GE107 := n4_; have NB101_107 := n5_; have NB107_101 := n6_; clear n0_ n1_ n2_ n3_ n4_ n5_ n6_; clear hb hbox hg; have hnb38 := NB107_101.out; have hnc38 := NB101_107.out; have hcz39_0 : w37.cell? ⟨gb107, 0, none⟩ = some (.int .i64 0) := vb BK107 0; have hcz39_1 : w37.cell? ⟨gb107, 1, none⟩ = some (.int .i64 0) := vb BK107 1; have hcz39_2 : w37.cell? ⟨gb107, 2, none⟩ = some (.int .i64 0) := vb BK107 2; have hcz39_3 : w37.cell? ⟨gb107, 3, none⟩ = some (.int .i64 0) := vb BK107 3; have hfz39_0 := blk_frozen BK107.out 0; have hfz39_1 := blk_frozen BK107.out 1; have hfz39_2 := blk_frozen BK107.out 2; have hfz39_3 := blk_frozen BK107.out 3) | (go_at_call 55; (with_reducible refine (kernel_in.calls ((rd_T66 l0_3 x34_2).f0) 0 4 true _ A22.out).mono ?_); rintro e w' ⟨rfl, ⟨nd, rfl⟩⟩) | (go_at_call 55; (with_reducible refine (kernel_in.calls ((rd_T66 l0_3 x34_2).f1) 0 ((rd_T66 l0_3 x34_2).f2) false _ A24.out).mono ?_); rintro e w' ⟨rfl, ⟨nd, rfl⟩⟩))
           go_roundg k2
           case measure => have := HJ1.out; have := HK2.out; omega
           case rel => exact ⟨(false), (wrap64 (x34_2 + 1)), ze, ze, H', ⟨zw HJ1 HK2⟩, ⟨by (with_reducible repeat (first | refine blk_drewN ?_ _ | refine blk_drew ?_ | refine blk_alloc ?_ _)); refine blk_far ?_ NB101_107.out _; (with_reducible repeat (first | refine blk_drewN ?_ _ | refine blk_drew ?_ | refine blk_alloc ?_ _)); refine blk_far ?_ NB101_107.out _; (with_reducible repeat (first | refine blk_drewN ?_ _ | refine blk_drew ?_ | refine blk_alloc ?_ _)); refine blk_far ?_ NB101_107.out _; (with_reducible repeat (first | refine blk_drewN ?_ _ | refine blk_drew ?_ | refine blk_alloc ?_ _)); refine blk_far ?_ NB101_107.out _; (with_reducible repeat (first | refine blk_drewN ?_ _ | refine blk_drew ?_ | refine blk_alloc ?_ _)); exact BK101.out⟩, ⟨zb⟩⟩
         ·replace c23 := Bool.eq_false_iff.mpr c23
          subst c23
          have H1 : (kernel_Check.l0 k2 false l0_3 (l0_3.length : Int) (wrap64 (x34_2 + 1)) a0_0 a0_1 a0_2 l0_3) = some r := by rw [if_neg (show ¬ (false = true) by decide)] at H; exact H
          clear H
          have H := H1
          clear H1
          have H' := zh H
          clear H
          have p106 : 0 ≤ (x34_2 : Int) := of_decide_eq_true zs
          have q106 : x34_2 < (l0_3.length : Int) := of_decide_eq_true zs
          obtain ⟨ad106, e106, hx106_0, hx106_1, hx106_2, hx106_3⟩ := at_T66 HR0_3.out x34_2 p106 q106
          cases e106
          replace hx106_0 := ve HB.out hx106_0
          replace hx106_1 := ve HB.out hx106_1
          replace hx106_2 := ve HB.out hx106_2
          replace hx106_3 := ve HB.out hx106_3
          replace p106 := eq_true p106
          replace q106 := eq_true q106
          go_wp2_with (first | ((with_reducible refine gate_dst (N := 5) rfl ?_); (try (refine gate_guard (by rfl) ?_; dsimp only)); refine box_event ?hg (N := 5) ?hd (cs := #[.int .i64 0, .int .i64 0, .int .i64 0, .int .i64 0]) (t := 66) ?hr ?_; (case hd => rfl); (case hg => rfl); (case hr => first | (go_simp; done) | (go_simp; rfl)); intro gb107 hg w40 hbox hb; have n0_ := zh (blk_below (g := gb101) (o := .cells #[.int .i64 a0_0, .int .i64 a0_1, .int .i64 a0_2, .slice (some ad106) l0_3.length c0_3] 24 (0, 0)) (zc BK101) hb); have n1_ := zh (below_step zb hb); have n2_ := zh (hbox); have n3_ := zh ((by rw [hg]; exact (below_size zb) : w.heap.size ≤ gb107)); have n4_ := zh ((by rw [hg]; exact (below_size zb) : w.heap.size ≤ gb107)); have n5_ := zh ((by rw [hg]; exact Nat.ne_of_lt (blk_lt (g := gb101) (o := .cells #[.int .i64 a0_0, .int .i64 a0_1, .int .i64 a0_2, .slice (some ad106) l0_3.length c0_3] 24 (0, 0)) (zc BK101)) : gb101 ≠ gb107)); have n6_ := zh ((by rw [hg]; exact Nat.ne_of_gt (blk_lt (g := gb101) (o := .cells #[.int .i64 a0_0, .int .i64 a0_1, .int .i64 a0_2, .slice (some ad106) l0_3.length c0_3] 24 (0, 0)) (zc BK101)) : gb107 ≠ gb101)); clear BK101; clear HB; have BK101 := n0_; have HB := n1_; have BK107 := n2_; have GW107 := n3_; have GE107 := n4_; have NB101_107 := n5_; have NB107_101 := n6_; clear n0_ n1_ n2_ n3_ n4_ n5_ n6_; clear hb hbox hg; have hnb41 := NB107_101.out; have hnc41 := NB101_107.out; have hcz42_0 : w40.cell? ⟨gb107, 0, none⟩ = some (.int .i64 0) := vb BK107 0; have hcz42_1 : w40.cell? ⟨gb107, 1, none⟩ = some (.int .i64 0) := vb BK107 1; have hcz42_2 : w40.cell? ⟨gb107, 2, none⟩ = some (.int .i64 0) := vb BK107 2; have hcz42_3 : w40.cell? ⟨gb107, 3, none⟩ = some (.int .i64 0) := vb BK107 3; have hfz42_0 := blk_frozen BK107.out 0; have hfz42_1 := blk_frozen BK107.out 1; have hfz42_2 := blk_frozen BK107.out 2; have hfz42_3 := blk_frozen BK107.out 3) | (go_at_call 55; (with_reducible refine (kernel_in.calls ((rd_T66 l0_3 x34_2).f0) 0 4 false _ A22.out).mono ?_); rintro e w' ⟨rfl, ⟨nd, rfl⟩⟩))
          go_roundg k2
          case measure => have := HJ1.out; have := HK2.out; omega
          case rel => exact ⟨(false), (wrap64 (x34_2 + 1)), ze, ze, H', ⟨zw HJ1 HK2⟩, ⟨by (with_reducible repeat (first | refine blk_drewN ?_ _ | refine blk_drew ?_ | refine blk_alloc ?_ _)); refine blk_far ?_ NB101_107.out _; (with_reducible repeat (first | refine blk_drewN ?_ _ | refine blk_drew ?_ | refine blk_alloc ?_ _)); refine blk_far ?_ NB101_107.out _; (with_reducible repeat (first | refine blk_drewN ?_ _ | refine blk_drew ?_ | refine blk_alloc ?_ _)); refine blk_far ?_ NB101_107.out _; (with_reducible repeat (first | refine blk_drewN ?_ _ | refine blk_drew ?_ | refine blk_alloc ?_ _)); refine blk_far ?_ NB101_107.out _; (with_reducible repeat (first | refine blk_drewN ?_ _ | refine blk_drew ?_ | refine blk_alloc ?_ _)); exact BK101.out⟩, ⟨zb⟩⟩
        ·replace c21 := Bool.eq_false_iff.mpr c21
         subst c21
         have H1 : (kernel_Check.l0 k2 false l0_3 (l0_3.length : Int) (wrap64 (x34_2 + 1)) a0_0 a0_1 a0_2 l0_3) = some r := by rw [if_neg (show ¬ (false = true) by decide)] at H; exact H
         clear H
         have H := H1
         clear H1
         have H' := zh H
         clear H
         have p106 : 0 ≤ (x34_2 : Int) := of_decide_eq_true zs
         have q106 : x34_2 < (l0_3.length : Int) := of_decide_eq_true zs
         obtain ⟨ad106, e106, hx106_0, hx106_1, hx106_2, hx106_3⟩ := at_T66 HR0_3.out x34_2 p106 q106
         cases e106
         replace hx106_0 := ve HB.out hx106_0
         replace hx106_1 := ve HB.out hx106_1
         replace hx106_2 := ve HB.out hx106_2
         replace hx106_3 := ve HB.out hx106_3
         replace p106 := eq_true p106
         replace q106 := eq_true q106
         go_wp2_with (first | ((with_reducible refine gate_dst (N := 5) rfl ?_); (try (refine gate_guard (by rfl) ?_; dsimp only)); refine box_event ?hg (N := 5) ?hd (cs := #[.int .i64 0, .int .i64 0, .int .i64 0, .int .i64 0]) (t := 66) ?hr ?_; (case hd => rfl); (case hg => rfl); (case hr => first | (go_simp; done) | (go_simp; rfl)); intro gb107 hg w43 hbox hb; have n0_ := zh (blk_below (g := gb101) (o := .cells #[.int .i64 a0_0, .int .i64 a0_1, .int .i64 a0_2, .slice (some ad106) l0_3.length c0_3] 24 (0, 0)) (zc BK101) hb); have n1_ := zh (below_step zb hb); have n2_ := zh (hbox); have n3_ := zh ((by rw [hg]; exact (below_size zb) : w.heap.size ≤ gb107)); have n4_ := zh ((by rw [hg]; exact (below_size zb) : w.heap.size ≤ gb107)); have n5_ := zh ((by rw [hg]; exact Nat.ne_of_lt (blk_lt (g := gb101) (o := .cells #[.int .i64 a0_0, .int .i64 a0_1, .int .i64 a0_2, .slice (some ad106) l0_3.length c0_3] 24 (0, 0)) (zc BK101)) : gb101 ≠ gb107)); have n6_ := zh ((by rw [hg]; exact Nat.ne_of_gt (blk_lt (g := gb101) (o := .cells #[.int .i64 a0_0, .int .i64 a0_1, .int .i64 a0_2, .slice (some ad106) l0_3.length c0_3] 24 (0, 0)) (zc BK101)) : gb107 ≠ gb101)); clear BK101; clear HB; have BK101 := n0_; have HB := n1_; have BK107 := n2_; have GW107 := n3_; have GE107 := n4_; have NB101_107 := n5_; have NB107_101 := n6_; clear n0_ n1_ n2_ n3_ n4_ n5_ n6_; clear hb hbox hg; have hnb44 := NB107_101.out; have hnc44 := NB101_107.out; have hcz45_0 : w43.cell? ⟨gb107, 0, none⟩ = some (.int .i64 0) := vb BK107 0; have hcz45_1 : w43.cell? ⟨gb107, 1, none⟩ = some (.int .i64 0) := vb BK107 1; have hcz45_2 : w43.cell? ⟨gb107, 2, none⟩ = some (.int .i64 0) := vb BK107 2; have hcz45_3 : w43.cell? ⟨gb107, 3, none⟩ = some (.int .i64 0) := vb BK107 3; have hfz45_0 := blk_frozen BK107.out 0; have hfz45_1 := blk_frozen BK107.out 1; have hfz45_2 := blk_frozen BK107.out 2; have hfz45_3 := blk_frozen BK107.out 3))
         go_roundg k2
         case measure => have := HJ1.out; have := HK2.out; omega
         case rel => exact ⟨(false), (wrap64 (x34_2 + 1)), ze, ze, H', ⟨zw HJ1 HK2⟩, ⟨by (with_reducible repeat (first | refine blk_drewN ?_ _ | refine blk_drew ?_ | refine blk_alloc ?_ _)); refine blk_far ?_ NB101_107.out _; (with_reducible repeat (first | refine blk_drewN ?_ _ | refine blk_drew ?_ | refine blk_alloc ?_ _)); refine blk_far ?_ NB101_107.out _; (with_reducible repeat (first | refine blk_drewN ?_ _ | refine blk_drew ?_ | refine blk_alloc ?_ _)); refine blk_far ?_ NB101_107.out _; (with_reducible repeat (first | refine blk_drewN ?_ _ | refine blk_drew ?_ | refine blk_alloc ?_ _)); refine blk_far ?_ NB101_107.out _; (with_reducible repeat (first | refine blk_drewN ?_ _ | refine blk_drew ?_ | refine blk_alloc ?_ _)); exact BK101.out⟩, ⟨zb⟩⟩
       ·rw [if_neg c20] at H
        exact absurd H (by simp)
      ·rw [if_neg c19] at H
       exact absurd H (by simp)
     ·rw [if_neg c18] at H
      have c18b0 : decide (x34_2 < (l0_3.length : Int)) = false := decide_eq_false c18
      clear c18
      by_cases c46 : x3_2 = true
      ·subst c46
       have H1 : (some 0) = some r := by rw [if_pos rfl] at H; exact H
       clear H
       have H := H1
       clear H1
       obtain rfl := Option.some.inj H
       go_wp2
       go_ret
       exact ⟨zf, zb⟩
      ·replace c46 := Bool.eq_false_iff.mpr c46
       subst c46
       have H1 : (some 60) = some r := by rw [if_neg (show ¬ (false = true) by decide)] at H; exact H
       clear H
       have H := H1
       clear H1
       obtain rfl := Option.some.inj H
       go_wp2
       go_ret
       exact ⟨zf, zb⟩
end Go.Proofs.YtagkfkdoibnhfaaDoor.H
end
section
namespace Go.Proofs.YtagkfkdoibnhfaaDoor.K
open Go.RowKit Go.Proofs.YtagkfkdoibnhfaaDoor.H
theorem w64 {n : Int} (h0 : -9223372036854775808 ≤ n) (h1 : n ≤ 9223372036854775807) : wrap64 n = n := by unfold wrap64; omega
theorem in_f (n a b : Int) : kernel_in.f n a b = some (decide (a ≤ n) && decide (n ≤ b)) := by
 unfold kernel_in.f
 by_cases h : a ≤ n <;> simp [h]
theorem rd66 (R : List S66) (i : Nat) (h : i < R.length) : rd_T66 R (i : Int) = R[i] := by
 unfold rd_T66
 simp [h]
theorem mul_range {T O : Int} (h1 : 2 ≤ T) (h2 : T ≤ 7) (h3 : 1 ≤ O) (h4 : O ≤ 3) : 2 ≤ T * O ∧ T * O ≤ 21 := by
 constructor
 ·have := Int.mul_le_mul h1 h3 (by omega) (by omega : (0 : Int) ≤ T)
  omega
 ·have := Int.mul_le_mul h2 h4 (by omega) (by omega : (0 : Int) ≤ 7)
  omega
theorem check_l0 (T O L : Int) (R : List S66) (hR : R.length ≤ 9223372036854775807) :
  ∀ (d k i : Nat) (ok : Bool), R.length - i = d → i ≤ R.length → d < k → (ok = true → 2 ≤ T ∧ T ≤ 7 ∧ 1 ≤ O ∧ O ≤ 3) →
   kernel_Check.l0 k ok R (R.length : Int) (i : Int) T O L R = some (if ok && (R.drop i).all (okReg (T * O)) then 0 else 60)
 | 0, k, i, ok, hd, hi, hk, h => by
  obtain ⟨k, rfl⟩ : ∃ m, k = m + 1 := ⟨k - 1, by omega⟩
  obtain rfl : i = R.length := by omega
  simp only [kernel_Check.l0]
  rw [if_neg (by omega)]
  cases ok <;> simp
 | d + 1, k, i, ok, hd, hi, hk, h => by
  obtain ⟨k, rfl⟩ : ∃ m, k = m + 1 := ⟨k - 1, by omega⟩
  have hlt : i < R.length := by omega
  have e : wrap64 ((i : Int) + 1) = ((i + 1 : Nat) : Int) := by rw [w64 (by omega) (by omega)]; simp
  simp only [kernel_Check.l0]
  rw [if_pos (by omega), if_pos (by omega), if_pos (by omega), e, rd66 R i hlt]
  have ih := fun ok' (h' : ok' = true → 2 ≤ T ∧ T ≤ 7 ∧ 1 ≤ O ∧ O ≤ 3) => check_l0 T O L R hR d k (i + 1) ok' (by omega) (by omega) (by omega) h'
  rw [List.drop_eq_getElem_cons hlt, List.all_cons]
  cases ok with
  | false => rw [if_neg (by simp), ih false (by simp)]; simp
  | true =>
   obtain ⟨t1, t2, t3, t4⟩ := h rfl
   obtain ⟨m1, m2⟩ := mul_range t1 t2 t3 t4
   rw [if_pos rfl, w64 (by omega) (by omega : T * O ≤ 9223372036854775807), w64 (by omega) (by omega : T * O - 1 ≤ 9223372036854775807)]
   simp only [in_f, Option.bind_some, ih false (by simp), ih _ (fun _ => ⟨t1, t2, t3, t4⟩), okReg, Bool.true_and, Bool.and_assoc]
   generalize hA : (List.drop (i + 1) R).all _ = A
   by_cases a0 : 0 ≤ R[i].f0 <;> by_cases a1 : R[i].f0 ≤ 4 <;> by_cases a2 : 0 ≤ R[i].f1 <;> by_cases a3 : R[i].f1 ≤ R[i].f2 <;> by_cases a4 : 0 ≤ R[i].f2 <;> by_cases a5 : R[i].f2 ≤ T * O - 1 <;> simp [a0, a1, a2, a3, a4, a5]
theorem check_f (T O L : Int) (R : List S66) (hR : R.length ≤ 9223372036854775807) (k : Nat) (hk : R.length + 2 ≤ k) : kernel_Check.f k T O L R = some (if okScale T O L R then 0 else 60) := by
 obtain ⟨k, rfl⟩ : ∃ m, k = m + 1 := ⟨k - 1, by omega⟩
 have l := fun ok h => check_l0 T O L R hR R.length k 0 ok (by omega) (by omega) (by omega) h
 have j : ∀ ok, (ok = true → 2 ≤ T ∧ T ≤ 7 ∧ 1 ≤ O ∧ O ≤ 3) → kernel_Check.j0 (k + 1) ok T O L R = some (if ok && R.all (okReg (T * O)) then 0 else 60) := fun ok h => by
  simp only [kernel_Check.j0]
  have := l ok h
  simpa using this
 have jf := j false (by simp)
 unfold kernel_Check.f okScale
 simp only [in_f, Option.bind_some, jf]
 by_cases h1 : 2 ≤ T <;> by_cases h2 : T ≤ 7 <;> by_cases h3 : 1 ≤ O <;> by_cases h4 : O ≤ 3 <;> simp only [h1, h2, h3, h4, decide_true, decide_false, Bool.true_and, Bool.false_and, Bool.and_true, Bool.and_false, if_true, if_false, Bool.false_eq_true]
 by_cases h5 : 2 ≤ L <;> by_cases h6 : L ≤ 16 <;> simp only [h5, h6, decide_true, decide_false, Bool.true_and, Bool.false_and, Bool.and_true, Bool.and_false, if_true, if_false, Bool.false_eq_true]
 by_cases h7 : L % 2 = 0
 ·rw [if_pos ((tmod_zero _ _).2 h7), j _ (fun _ => ⟨h1, h2, h3, h4⟩)]
  have e1 : decide ((1 : Int) ≤ (R.length : Int)) = decide (1 ≤ R.length) := by rw [decide_eq_decide]; omega
  have e2 : decide ((R.length : Int) ≤ 5) = decide (R.length ≤ 5) := by rw [decide_eq_decide]; omega
  rw [e1, e2]
  simp [h7]
 ·rw [if_neg (fun e => h7 ((tmod_zero _ _).1 e))]
  simp [h7]
end Go.Proofs.YtagkfkdoibnhfaaDoor.K
end
section
namespace Go.Proofs.YtagkfkdoibnhfaaDoor.K
open Go.RowKit Go.Proofs.YtagkfkdoibnhfaaDoorW.PrintWords Go.Proofs.YtagkfkdoibnhfaaDoor.H
set_option linter.unusedVariables false
set_option linter.unusedSimpArgs false
def tonesOk (T O : Int) (l : List Int) (k : Nat) : Bool := (l.take k).all fun t => decide (0 ≤ t) && decide (t < T * O)
theorem tonesOk_zero (T O : Int) (l : List Int) : tonesOk T O l 0 = true := by simp [tonesOk]
theorem tonesOk_succ (T O : Int) (l : List Int) (k : Nat) (h : k < l.length) : tonesOk T O l (k + 1) = (tonesOk T O l k && (decide (0 ≤ l[k]) && decide (l[k] < T * O))) := by
 unfold tonesOk
 rw [List.take_succ_eq_append_getElem h, List.all_append]
 simp
theorem in_le (n m : Int) : kernel_in.f n 0 (m - 1) = some (decide (0 ≤ n) && decide (n < m)) := by
 rw [in_f]
 congr 2
 rw [decide_eq_decide]
 omega
theorem C_int_at {w : World} {A : Option Addr} {n : Nat} {l : List Int} (h : Kd.C (Kd.int .i64) w A n l) (k : Nat) (hk : k < n) : ∃ ad, A = some ad ∧ w.cell? (ad.add k) = some (.int .i64 (l.getD k 0)) := by
 obtain ⟨ad, c, e, _, hK, hc0⟩ := Kd.C_get h (0 : Int) (k : Int) (by omega) (by omega)
 refine ⟨ad, e, ?_⟩
 have hK' : c = [.int .i64 (l.getD ((k : Int).toNat) 0)] := hK
 rw [Int.toNat_natCast] at hK' hc0
 have h1 := hc0 0 (.int .i64 (l.getD k 0)) (by rw [hK']; rfl)
 have hsz : (Kd.int .i64).sz = 1 := rfl
 simpa [hsz] using h1
set_option maxRecDepth 100000 in
set_option maxHeartbeats 4000000 in
theorem part1_loop (T O L reg : Int) (A : Option Addr) (R : List S66) (c m b1 b2 : Nat) (A1 : Option Addr) (c1 : Nat) (l : List Int) (w : World) (hl : Kd.C (Kd.int .i64) w A1 l.length l)
  (h1 : w.heap[b1]? = some (.cells #[.slice A1 l.length c1] 25 (0, 0))) (h2 : w.heap[b2]? = some (.cells #[.int .i64 reg] 3 (0, 0))) (m0 : 0 ≤ T * O) (m1 : T * O ≤ 100) (hL : 0 ≤ L) (hL' : L ≤ 100)
  (hn : R.length ≤ 5) :
  Calls Tryd.prog 54 #[.agg #[.int .i64 T, .int .i64 O, .int .i64 L, .slice A R.length c, .map (some m)], .pointer (some ⟨b1, 0, none⟩), .pointer (some ⟨b2, 0, none⟩)] w
   fun e w' => e = .returned (.bool (okPart T O L R l reg)) ∧ Below w.heap.size w w' := by
 have hu24 := Tryd.underlying24
 have hu78 := Tryd.underlying78
 have q1 : w.cell? ⟨b1, 0, none⟩ = some (.slice A1 l.length c1) := (blk_cell h1 0).trans rfl
 have q2 : w.cell? ⟨b2, 0, none⟩ = some (.int .i64 reg) := (blk_cell h2 0).trans rfl
 replace q1 := cell_a1 q1
 replace q2 := cell_a1 q2
 have HL := zh hl
 have hls : l.length ≤ 9223372036854775807 := hl.2.1
 clear hl h1 h2
 by_cases e0 : (l.length : Int) = L
 ·have e0' : ((l.length : Int) == L) = true := beq_iff_eq.2 e0
  have HF := zh (in_le reg R.length)
  have HE := zh e0
  clear e0
  go_enter Tryd.func54, Tryd.ntmps54
  go_wp2_with (first | ((go_at_call 55; (with_reducible refine (kernel_in.calls reg 0 ((R.length : Int) - 1) _ _ HF.out).mono ?_)); rintro e w' ⟨rfl, ⟨nd, rfl⟩⟩))
  go_loopw [5, 25] (fun o u wr => ∃ (k : Nat) (ok : Bool), k ≤ l.length ∧ u = .int .i64 k ∧ o = .bool ok ∧ Aside0 (ok = ((decide (0 ≤ reg) && decide (reg < (R.length : Int))) && tonesOk T O l k)) ∧ Aside0 (wr.heap[w.heap.size]? = some (.cells #[.int .i64 T, .int .i64 O, .int .i64 L, .slice A R.length c, .map (some m)] 78 (0, 0))) ∧ Aside0 (Below w.heap.size w wr)) (fun _ u _ => l.length - (intOf u).toNat)
  case atStart => exact ⟨0, _, Nat.zero_le _, rfl, rfl, ⟨by rw [tonesOk_zero, Bool.and_true]⟩, ⟨by first | exact blk_drewN (heap_alloc_new w _) _ | exact heap_alloc_new w _⟩, ⟨by repeat (first | exact Below.refl _ _ | apply below_alloc | apply pw_below_drewN | apply below_drew1)⟩⟩
  case round =>
   obtain ⟨k, ok, hk, rfl, rfl, HO, HB0, HB⟩ := hrel
   by_cases hlt : k < l.length
   ·obtain ⟨ad, rfl, hx⟩ := C_int_at (Kd.C_below HL.out HB.out) k hlt
    rw [List.getD_eq_getElem?_getD, List.getElem?_eq_getElem hlt, Option.getD_some] at hx
    have HS := zh (tonesOk_succ T O l k hlt)
    generalize hy : l[k] = y at hx HS
    clear hy
    have z0 : wr.cell? ⟨w.heap.size, 0, none⟩ = some (.int .i64 T) := vb HB0 0
    have z1 : wr.cell? ⟨w.heap.size, 1, none⟩ = some (.int .i64 O) := vb HB0 1
    have z2 : wr.cell? ⟨w.heap.size, 2, none⟩ = some (.int .i64 L) := vb HB0 2
    have z3 : wr.cell? ⟨w.heap.size, 3, none⟩ = some (.slice A R.length c) := vb HB0 3
    have z4 : wr.cell? ⟨w.heap.size, 4, none⟩ = some (.map (some m)) := vb HB0 4
    cases ok with
    | true =>
     have HG := zh (in_le y (T * O))
     go_wp2_with (first | ((go_at_call 56; (with_reducible refine (many_calls T O L A R.length c m _ m0 m1).mono ?_)); rintro e w2 ⟨rfl, hb2⟩; have HB2 := zh (below_step HB.out hb2); have HB3 := zh (blk_below HB0.out hb2); clear hb2) | ((go_at_call 55; (with_reducible refine (kernel_in.calls y 0 (T * O - 1) _ _ HG.out).mono ?_)); rintro e w' ⟨rfl, ⟨nd, rfl⟩⟩))
     go_roundw
     case rel => exact ⟨k + 1, _, by omega, by go_num, rfl, ⟨by rw [HS.out, ← Bool.and_assoc, ← HO.out, Bool.true_and]⟩, ⟨by first | exact blk_drewN HB3.out _ | exact HB3.out⟩, ⟨by repeat (first | exact HB2.out | apply pw_below_drewN)⟩⟩
     case measure => simp [intOf]; omega
    | false =>
     go_wp2
     go_roundw
     case rel => exact ⟨k + 1, false, by omega, by go_num, rfl, ⟨by rw [HS.out, ← Bool.and_assoc, ← HO.out, Bool.false_and]⟩, HB0, HB⟩
     case measure => simp [intOf]; omega
   ·obtain rfl : k = l.length := by omega
    go_wp2
    go_ret
    exact ⟨by rw [HO.out]; unfold okPart tonesOk; rw [List.take_length, decide_eq_true HE.out]; simp [Bool.and_assoc], HB.out⟩
 ·have e0' : ((l.length : Int) == L) = false := beq_eq_false_iff_ne.2 e0
  have HE := zh e0
  clear e0
  go_enter Tryd.func54, Tryd.ntmps54
  go_wp2
  go_loopw [5, 25] (fun o u wr => ∃ (k : Nat) (ok : Bool), k ≤ l.length ∧ u = .int .i64 k ∧ o = .bool ok ∧ Aside0 (ok = (false && tonesOk T O l k)) ∧ Aside0 (wr.heap[w.heap.size]? = some (.cells #[.int .i64 T, .int .i64 O, .int .i64 L, .slice A R.length c, .map (some m)] 78 (0, 0))) ∧ Aside0 (Below w.heap.size w wr)) (fun _ u _ => l.length - (intOf u).toNat)
  case atStart => exact ⟨0, _, Nat.zero_le _, rfl, rfl, ⟨by rw [tonesOk_zero, Bool.and_true]⟩, ⟨by first | exact blk_drewN (heap_alloc_new w _) _ | exact heap_alloc_new w _⟩, ⟨by repeat (first | exact Below.refl _ _ | apply below_alloc | apply pw_below_drewN | apply below_drew1)⟩⟩
  case round =>
   obtain ⟨k, ok, hk, rfl, rfl, HO, HB0, HB⟩ := hrel
   by_cases hlt : k < l.length
   ·obtain ⟨ad, rfl, hx⟩ := C_int_at (Kd.C_below HL.out HB.out) k hlt
    rw [List.getD_eq_getElem?_getD, List.getElem?_eq_getElem hlt, Option.getD_some] at hx
    have HS := zh (tonesOk_succ T O l k hlt)
    generalize hy : l[k] = y at hx HS
    clear hy
    have z0 : wr.cell? ⟨w.heap.size, 0, none⟩ = some (.int .i64 T) := vb HB0 0
    have z1 : wr.cell? ⟨w.heap.size, 1, none⟩ = some (.int .i64 O) := vb HB0 1
    have z2 : wr.cell? ⟨w.heap.size, 2, none⟩ = some (.int .i64 L) := vb HB0 2
    have z3 : wr.cell? ⟨w.heap.size, 3, none⟩ = some (.slice A R.length c) := vb HB0 3
    have z4 : wr.cell? ⟨w.heap.size, 4, none⟩ = some (.map (some m)) := vb HB0 4
    cases ok with
    | true =>
     have HG := zh (in_le y (T * O))
     go_wp2_with (first | ((go_at_call 56; (with_reducible refine (many_calls T O L A R.length c m _ m0 m1).mono ?_)); rintro e w2 ⟨rfl, hb2⟩; have HB2 := zh (below_step HB.out hb2); have HB3 := zh (blk_below HB0.out hb2); clear hb2) | ((go_at_call 55; (with_reducible refine (kernel_in.calls y 0 (T * O - 1) _ _ HG.out).mono ?_)); rintro e w' ⟨rfl, ⟨nd, rfl⟩⟩))
     go_roundw
     case rel => exact ⟨k + 1, _, by omega, by go_num, rfl, ⟨by rw [HS.out, ← Bool.and_assoc, ← HO.out, Bool.true_and]⟩, ⟨by first | exact blk_drewN HB3.out _ | exact HB3.out⟩, ⟨by repeat (first | exact HB2.out | apply pw_below_drewN)⟩⟩
     case measure => simp [intOf]; omega
    | false =>
     go_wp2
     go_roundw
     case rel => exact ⟨k + 1, false, by omega, by go_num, rfl, ⟨by rw [HS.out, ← Bool.and_assoc, ← HO.out, Bool.false_and]⟩, HB0, HB⟩
     case measure => simp [intOf]; omega
   ·obtain rfl : k = l.length := by omega
    go_wp2
    go_ret
    exact ⟨by rw [HO.out]; unfold okPart tonesOk; rw [List.take_length, decide_eq_false HE.out]; simp [Bool.and_assoc], HB.out⟩
end Go.Proofs.YtagkfkdoibnhfaaDoor.K
end
section
namespace Go.Proofs.YtagkfkdoibnhfaaDoor.K
open Go.RowKit Go.Proofs.YtagkfkdoibnhfaaDoorW.PrintWords Go.Proofs.YtagkfkdoibnhfaaDoor.H
set_option linter.unusedVariables false
set_option linter.unusedSimpArgs false
def OpenedPost (T O L : Int) (A : Option Addr) (R : List S66) (c : Nat) (b : Bool) (w : World) (e : Ending) (w' : World) : Prop :=
 (okScale T O L R = false → e = .returned (.tuple #[.agg #[.int .i64 0, .int .i64 0, .int .i64 0, .slice none 0 0, .map none], .int .i64 60]) ∧ Below w.heap.size w w') ∧
 (okScale T O L R = true → b = false → e = .returned (.tuple #[.agg #[.int .i64 0, .int .i64 0, .int .i64 0, .slice none 0 0, .map none], .int .i64 61]) ∧ Below w.heap.size w w') ∧
 (okScale T O L R = true → b = true → ∃ m, e = .returned (.tuple #[.agg #[.int .i64 T, .int .i64 O, .int .i64 L, .slice A R.length c, .map (some m)], .int .i64 0]) ∧ Ctx w w' T A R m)
theorem okScale_regs {T O L : Int} {R : List S66} (h : okScale T O L R = true) : 2 ≤ T ∧ T ≤ 7 ∧ 1 ≤ O ∧ O ≤ 3 ∧ 2 ≤ L ∧ L ≤ 16 ∧ L % 2 = 0 ∧ 1 ≤ R.length ∧ R.length ≤ 5 ∧ ∀ r : Int, 0 ≤ r → r < R.length → RegOk (regAt R r) := by
 unfold okScale at h
 simp only [Bool.and_eq_true, decide_eq_true_eq] at h
 obtain ⟨⟨⟨⟨⟨⟨⟨⟨⟨h1, h2⟩, h3⟩, h4⟩, h5⟩, h6⟩, h7⟩, h8⟩, h9⟩, h10⟩ := h
 refine ⟨h1, h2, h3, h4, h5, h6, h7, h8, h9, fun r r0 r1 => ?_⟩
 have hm := mul_range h1 h2 h3 h4
 have hr : r.toNat < R.length := by omega
 have hx := List.all_eq_true.1 h10 (R[r.toNat]) (List.getElem_mem hr)
 have e : regAt R r = R[r.toNat] := by unfold regAt; simp [hr]
 rw [e]
 unfold okReg at hx
 simp only [Bool.and_eq_true, decide_eq_true_eq] at hx
 obtain ⟨⟨⟨⟨⟨⟨⟨x1, x2⟩, x3⟩, x4⟩, x5⟩, x6⟩, x7⟩, x8⟩ := hx
 exact ⟨x3, x4, by omega, x7, x8, x1, x2⟩
theorem memo_new (T : Int) (R : List S66) (w : World) : Memo T R (w.alloc (.map #[] 0)) w.heap.size := ⟨[], MapIs.new w, by simp⟩
theorem ctx_new {w w1 : World} {T : Int} {A : Option Addr} {R : List S66} (hb : Below w.heap.size w w1) (hR : Kd.C k66 w A R.length R) (hG : Glob w) (o : Obj) (t1 : 2 ≤ T) (t2 : T ≤ 7) (hok : ∀ r : Int, 0 ≤ r → r < R.length → RegOk (regAt R r)) :
  Ctx w ((w1.alloc (.map #[] 0)).alloc o) T A R w1.heap.size :=
 ⟨below_alloc (below_alloc hb _) _, hb.size, hR, hG, (memo_new T R w1).alloc o, t1, t2, hok⟩
set_option maxRecDepth 100000 in
set_option maxHeartbeats 4000000 in
theorem opened_any (T O L : Int) (A : Option Addr) (R : List S66) (c : Nat) (f : Nat) (caps : Array Value) (b : Bool) (w : World) (hR : Kd.C k66 w A R.length R) (hc : R.length ≤ c) (hG : Glob w)
  (hcl : okScale T O L R = true → ∀ (W : World) (m : Nat), Ctx w W T A R m → Calls Tryd.prog f (#[.agg #[.int .i64 T, .int .i64 O, .int .i64 L, .slice A R.length c, .map (some m)]] ++ caps) W fun e W' => e = .returned (.bool b) ∧ Memo T R W' m ∧ Kp m W W')
  (hf : (f = 54 ∧ ∃ p1 p2, caps = #[.pointer p1, .pointer p2]) ∨ (f = 82 ∧ ∃ p1, caps = #[.pointer p1]) ∨ (f = 79 ∧ ∃ p1 p2, caps = #[.pointer p1, .pointer p2]) ∨ (f = 70 ∧ caps = #[])) :
  Calls Tryd.prog 53 #[.agg #[.int .i64 T, .int .i64 O, .int .i64 L, .slice A R.length c], .func (.func f) #[] caps] w (OpenedPost T O L A R c b w) := by
 rcases hf with ⟨rfl, p1, p2, rfl⟩ | ⟨rfl, p1, rfl⟩ | ⟨rfl, p1, p2, rfl⟩ | ⟨rfl, rfl⟩
 all_goals
  simp only [List.append_toArray, List.cons_append, List.nil_append] at hcl
  have hu24 := Tryd.underlying24
  have hu78 := Tryd.underlying78
  have hmm := @run_makeMap Tryd.prog
  have HC := zh (check_f T O L R hR.2.1 (R.length + 2) (Nat.le_refl _))
  have HR := zh hR
  have HCL := zh hcl
  clear hR hcl
  have HB1 := zh (below_alloc (below_alloc (Below.refl w.heap.size w) (.cells #[.int .i64 T, .int .i64 O, .int .i64 L, .slice A R.length c] 24)) (.cells #[.int .i64 0, .int .i64 0, .int .i64 0, .slice none 0 0, .map none] 78))
  cases hok : okScale T O L R with
  | false =>
   have HC2 := zh (show kernel_Check.f (R.length + 2) T O L R = some 60 by rw [HC.out, hok]; rfl)
   have HOK := zh hok
   clear hok
   go_enter Tryd.func53, Tryd.ntmps53
   go_wp2_with (first | ((go_at_call 19; (with_reducible refine (kernel_Check.calls (R.length + 2) T O L A c R 60 _ ((Kd.C_below HR.out HB1.out)) hc HC2.out).mono ?_)); rintro e w1 ⟨rfl, hb⟩; have HB2 := zh (below_step HB1.out hb); have b1 := zh (blk_below (g := w.heap.size + 1) (o := .cells #[.int .i64 0, .int .i64 0, .int .i64 0, .slice none 0 0, .map none] 78 (0, 0)) (alloc_at _ _ _ (by simp)) hb); clear hb; have z0 := blk_cell b1.out 0; have z1 := blk_cell b1.out 1; have z2 := blk_cell b1.out 2; have z3 := blk_cell b1.out 3; have z4 := blk_cell b1.out 4; have y0 := blk_frozen b1.out 0; have y1 := blk_frozen b1.out 1; have y2 := blk_frozen b1.out 2; have y3 := blk_frozen b1.out 3; have y4 := blk_frozen b1.out 4))
   refine bodyPost_ret (v := .tuple #[.agg #[.int .i64 0, .int .i64 0, .int .i64 0, .slice none 0 0, .map none], .int .i64 60]) dQ16 rfl ?_
   have hb3 : Below w.heap.size w (((((w1.setCell ⟨w.heap.size + 1, 0, none⟩ (.int .i64 0)).setCell ⟨w.heap.size + 1, 1, none⟩ (.int .i64 0)).setCell ⟨w.heap.size + 1, 2, none⟩ (.int .i64 0)).setCell ⟨w.heap.size + 1, 3, none⟩ (.slice none 0 0)).setCell ⟨w.heap.size + 1, 4, none⟩ (.map none)) := by repeat (first | (with_reducible exact HB2.out) | refine below_set ?_ (Nat.le_succ _))
   exact ⟨fun _ => ⟨rfl, hb3⟩, fun h => absurd (HOK.out.symm.trans h) (by simp), fun h => absurd (HOK.out.symm.trans h) (by simp)⟩
  | true =>
   obtain ⟨t1, t2, _, _, _, _, _, _, _, hregs⟩ := okScale_regs hok
   have HC2 := zh (show kernel_Check.f (R.length + 2) T O L R = some 0 by rw [HC.out, hok]; rfl)
   have HOK := zh hok
   have HRG := zh hregs
   have hw0 : w.heap.size ≠ w.heap.size + 1 := by omega
   clear hok hregs
   cases b with
   | true =>
    go_enter Tryd.func53, Tryd.ntmps53
    go_wp2_with (first | ((go_at_call 19; (with_reducible refine (kernel_Check.calls (R.length + 2) T O L A c R 0 _ ((Kd.C_below HR.out HB1.out)) hc HC2.out).mono ?_)); rintro e w1 ⟨rfl, hb⟩; have HB2 := zh (below_step HB1.out hb); have b0 := zh (blk_below (g := w.heap.size) (o := .cells #[.int .i64 T, .int .i64 O, .int .i64 L, .slice A R.length c] 24 (0, 0)) (blk_alloc (heap_alloc_new w _) _) hb); have b1 := zh (blk_below (g := w.heap.size + 1) (o := .cells #[.int .i64 0, .int .i64 0, .int .i64 0, .slice none 0 0, .map none] 78 (0, 0)) (alloc_at _ _ _ (by simp)) hb); clear hb; have x0 : w1.cell? ⟨w.heap.size, 0, none⟩ = some (.int .i64 T) := vb b0 0; have x1 : w1.cell? ⟨w.heap.size, 1, none⟩ = some (.int .i64 O) := vb b0 1; have x2 : w1.cell? ⟨w.heap.size, 2, none⟩ = some (.int .i64 L) := vb b0 2; have x3 : w1.cell? ⟨w.heap.size, 3, none⟩ = some (.slice A R.length c) := vb b0 3) | ((first | go_at_call 54 | go_at_call 82 | go_at_call 79 | go_at_call 70); (with_reducible refine (HCL.out HOK.out _ w1.heap.size ?ctx).mono ?_); (case ctx => exact ctx_new HB2.out HR.out hG (.cells #[.int .i64 T, .int .i64 O, .int .i64 L, .slice A R.length c, .map (some w1.heap.size)] 78) t1 t2 HRG.out); rintro e w2 ⟨rfl, hm2, hk2⟩; have hlt1 := blk_lt b1.out; have r2 := zh ((hk2.block (w.heap.size + 1) (by simp; omega) (by omega)).trans (blk_alloc (blk_alloc b1.out _) _)); have s2 := zh ((hk2.block (w1.heap.size + 1) (by simp) (by omega)).trans (alloc_at _ _ _ (by simp))); have HB3 := zh (Kp.below (w0 := w) (below_alloc (below_alloc HB2.out (.map #[] 0)) (.cells #[.int .i64 T, .int .i64 O, .int .i64 L, .slice A R.length c, .map (some w1.heap.size)] 78)) (Nat.le_trans (Nat.le_of_lt (Nat.lt_of_le_of_lt (Nat.le_refl _) (Nat.lt_of_lt_of_le (Nat.lt_succ_self _) (by omega)))) (Nat.le_refl _)) hk2); have HM3 := zh hm2; clear hm2 hk2; have z0 : w2.cell? ⟨w.heap.size + 1, 0, none⟩ = some (.int .i64 0) := vb r2 0; have z1 : w2.cell? ⟨w.heap.size + 1, 1, none⟩ = some (.int .i64 0) := vb r2 1; have z2 : w2.cell? ⟨w.heap.size + 1, 2, none⟩ = some (.int .i64 0) := vb r2 2; have z3 : w2.cell? ⟨w.heap.size + 1, 3, none⟩ = some (.slice none 0 0) := vb r2 3; have z4 : w2.cell? ⟨w.heap.size + 1, 4, none⟩ = some (.map none) := vb r2 4; have y0 := blk_frozen r2.out 0; have y1 := blk_frozen r2.out 1; have y2 := blk_frozen r2.out 2; have y3 := blk_frozen r2.out 3; have y4 := blk_frozen r2.out 4; have v0 : w2.cell? ⟨w1.heap.size + 1, 0, none⟩ = some (.int .i64 T) := vb s2 0; have v1 : w2.cell? ⟨w1.heap.size + 1, 1, none⟩ = some (.int .i64 O) := vb s2 1; have v2 : w2.cell? ⟨w1.heap.size + 1, 2, none⟩ = some (.int .i64 L) := vb s2 2; have v3 : w2.cell? ⟨w1.heap.size + 1, 3, none⟩ = some (.slice A R.length c) := vb s2 3; have v4 : w2.cell? ⟨w1.heap.size + 1, 4, none⟩ = some (.map (some w1.heap.size)) := vb s2 4))
    refine bodyPost_ret (v := .tuple #[.agg #[.int .i64 T, .int .i64 O, .int .i64 L, .slice A R.length c, .map (some w1.heap.size)], .int .i64 0]) dQ16 rfl ?_
    have hb3 : Below w.heap.size w (((((w2.setCell ⟨w.heap.size + 1, 0, none⟩ (.int .i64 T)).setCell ⟨w.heap.size + 1, 1, none⟩ (.int .i64 O)).setCell ⟨w.heap.size + 1, 2, none⟩ (.int .i64 L)).setCell ⟨w.heap.size + 1, 3, none⟩ (.slice A R.length c)).setCell ⟨w.heap.size + 1, 4, none⟩ (.map (some w1.heap.size))) := by repeat (first | (with_reducible exact HB3.out) | refine below_set ?_ (Nat.le_succ _))
    have hm3 : Memo T R (((((w2.setCell ⟨w.heap.size + 1, 0, none⟩ (.int .i64 T)).setCell ⟨w.heap.size + 1, 1, none⟩ (.int .i64 O)).setCell ⟨w.heap.size + 1, 2, none⟩ (.int .i64 L)).setCell ⟨w.heap.size + 1, 3, none⟩ (.slice A R.length c)).setCell ⟨w.heap.size + 1, 4, none⟩ (.map (some w1.heap.size))) w1.heap.size := by repeat (first | (with_reducible exact HM3.out) | refine Memo.move ?_ (Below.heap_setCell _ _ _ _ (by show w1.heap.size ≠ w.heap.size + 1; omega)))
    exact ⟨fun h => absurd (HOK.out.symm.trans h) (by simp), fun _ h => absurd h (by simp), fun _ _ => ⟨_, rfl, hb3, by omega, HR.out, hG, hm3, t1, t2, HRG.out⟩⟩
   | false =>
    go_enter Tryd.func53, Tryd.ntmps53
    go_wp2_with (first | ((go_at_call 19; (with_reducible refine (kernel_Check.calls (R.length + 2) T O L A c R 0 _ ((Kd.C_below HR.out HB1.out)) hc HC2.out).mono ?_)); rintro e w1 ⟨rfl, hb⟩; have HB2 := zh (below_step HB1.out hb); have b0 := zh (blk_below (g := w.heap.size) (o := .cells #[.int .i64 T, .int .i64 O, .int .i64 L, .slice A R.length c] 24 (0, 0)) (blk_alloc (heap_alloc_new w _) _) hb); have b1 := zh (blk_below (g := w.heap.size + 1) (o := .cells #[.int .i64 0, .int .i64 0, .int .i64 0, .slice none 0 0, .map none] 78 (0, 0)) (alloc_at _ _ _ (by simp)) hb); clear hb; have x0 : w1.cell? ⟨w.heap.size, 0, none⟩ = some (.int .i64 T) := vb b0 0; have x1 : w1.cell? ⟨w.heap.size, 1, none⟩ = some (.int .i64 O) := vb b0 1; have x2 : w1.cell? ⟨w.heap.size, 2, none⟩ = some (.int .i64 L) := vb b0 2; have x3 : w1.cell? ⟨w.heap.size, 3, none⟩ = some (.slice A R.length c) := vb b0 3) | ((first | go_at_call 54 | go_at_call 82 | go_at_call 79 | go_at_call 70); (with_reducible refine (HCL.out HOK.out _ w1.heap.size ?ctx).mono ?_); (case ctx => exact ctx_new HB2.out HR.out hG (.cells #[.int .i64 T, .int .i64 O, .int .i64 L, .slice A R.length c, .map (some w1.heap.size)] 78) t1 t2 HRG.out); rintro e w2 ⟨rfl, hm2, hk2⟩; have hlt1 := blk_lt b1.out; have r2 := zh ((hk2.block (w.heap.size + 1) (by simp; omega) (by omega)).trans (blk_alloc (blk_alloc b1.out _) _)); have s2 := zh ((hk2.block (w1.heap.size + 1) (by simp) (by omega)).trans (alloc_at _ _ _ (by simp))); have HB3 := zh (Kp.below (w0 := w) (below_alloc (below_alloc HB2.out (.map #[] 0)) (.cells #[.int .i64 T, .int .i64 O, .int .i64 L, .slice A R.length c, .map (some w1.heap.size)] 78)) (Nat.le_trans (Nat.le_of_lt (Nat.lt_of_le_of_lt (Nat.le_refl _) (Nat.lt_of_lt_of_le (Nat.lt_succ_self _) (by omega)))) (Nat.le_refl _)) hk2); have HM3 := zh hm2; clear hm2 hk2; have z0 : w2.cell? ⟨w.heap.size + 1, 0, none⟩ = some (.int .i64 0) := vb r2 0; have z1 : w2.cell? ⟨w.heap.size + 1, 1, none⟩ = some (.int .i64 0) := vb r2 1; have z2 : w2.cell? ⟨w.heap.size + 1, 2, none⟩ = some (.int .i64 0) := vb r2 2; have z3 : w2.cell? ⟨w.heap.size + 1, 3, none⟩ = some (.slice none 0 0) := vb r2 3; have z4 : w2.cell? ⟨w.heap.size + 1, 4, none⟩ = some (.map none) := vb r2 4; have y0 := blk_frozen r2.out 0; have y1 := blk_frozen r2.out 1; have y2 := blk_frozen r2.out 2; have y3 := blk_frozen r2.out 3; have y4 := blk_frozen r2.out 4; have v0 : w2.cell? ⟨w1.heap.size + 1, 0, none⟩ = some (.int .i64 T) := vb s2 0; have v1 : w2.cell? ⟨w1.heap.size + 1, 1, none⟩ = some (.int .i64 O) := vb s2 1; have v2 : w2.cell? ⟨w1.heap.size + 1, 2, none⟩ = some (.int .i64 L) := vb s2 2; have v3 : w2.cell? ⟨w1.heap.size + 1, 3, none⟩ = some (.slice A R.length c) := vb s2 3; have v4 : w2.cell? ⟨w1.heap.size + 1, 4, none⟩ = some (.map (some w1.heap.size)) := vb s2 4))
    refine bodyPost_ret (v := .tuple #[.agg #[.int .i64 0, .int .i64 0, .int .i64 0, .slice none 0 0, .map none], .int .i64 61]) dQ16 rfl ?_
    have hb3 : Below w.heap.size w (((((w2.setCell ⟨w.heap.size + 1, 0, none⟩ (.int .i64 0)).setCell ⟨w.heap.size + 1, 1, none⟩ (.int .i64 0)).setCell ⟨w.heap.size + 1, 2, none⟩ (.int .i64 0)).setCell ⟨w.heap.size + 1, 3, none⟩ (.slice none 0 0)).setCell ⟨w.heap.size + 1, 4, none⟩ (.map none)) := by repeat (first | (with_reducible exact HB3.out) | refine below_set ?_ (Nat.le_succ _))
    exact ⟨fun h => absurd (HOK.out.symm.trans h) (by simp), fun _ _ => ⟨rfl, hb3⟩, fun _ h => absurd h (by simp)⟩
theorem opened_part (T O L : Int) (A : Option Addr) (R : List S66) (c : Nat) (p1 p2 : Option Addr) (b : Bool) (w : World) (hR : Kd.C k66 w A R.length R) (hc : R.length ≤ c) (hG : Glob w)
  (hcl : okScale T O L R = true → ∀ (W : World) (m : Nat), Ctx w W T A R m → Calls Tryd.prog 54 #[.agg #[.int .i64 T, .int .i64 O, .int .i64 L, .slice A R.length c, .map (some m)], .pointer p1, .pointer p2] W fun e W' => e = .returned (.bool b) ∧ Memo T R W' m ∧ Kp m W W') :
  Calls Tryd.prog 53 #[.agg #[.int .i64 T, .int .i64 O, .int .i64 L, .slice A R.length c], .func (.func 54) #[] #[.pointer p1, .pointer p2]] w (OpenedPost T O L A R c b w) := opened_any T O L A R c 54 #[.pointer p1, .pointer p2] b w hR hc hG hcl (.inl ⟨rfl, _, _, rfl⟩)
theorem opened_listened (T O L : Int) (A : Option Addr) (R : List S66) (c : Nat) (p1 : Option Addr) (b : Bool) (w : World) (hR : Kd.C k66 w A R.length R) (hc : R.length ≤ c) (hG : Glob w)
  (hcl : okScale T O L R = true → ∀ (W : World) (m : Nat), Ctx w W T A R m → Calls Tryd.prog 82 #[.agg #[.int .i64 T, .int .i64 O, .int .i64 L, .slice A R.length c, .map (some m)], .pointer p1] W fun e W' => e = .returned (.bool b) ∧ Memo T R W' m ∧ Kp m W W') :
  Calls Tryd.prog 53 #[.agg #[.int .i64 T, .int .i64 O, .int .i64 L, .slice A R.length c], .func (.func 82) #[] #[.pointer p1]] w (OpenedPost T O L A R c b w) := opened_any T O L A R c 82 #[.pointer p1] b w hR hc hG hcl (.inr (.inl ⟨rfl, _, rfl⟩))
theorem opened_twins (T O L : Int) (A : Option Addr) (R : List S66) (c : Nat) (p1 p2 : Option Addr) (b : Bool) (w : World) (hR : Kd.C k66 w A R.length R) (hc : R.length ≤ c) (hG : Glob w)
  (hcl : okScale T O L R = true → ∀ (W : World) (m : Nat), Ctx w W T A R m → Calls Tryd.prog 79 #[.agg #[.int .i64 T, .int .i64 O, .int .i64 L, .slice A R.length c, .map (some m)], .pointer p1, .pointer p2] W fun e W' => e = .returned (.bool b) ∧ Memo T R W' m ∧ Kp m W W') :
  Calls Tryd.prog 53 #[.agg #[.int .i64 T, .int .i64 O, .int .i64 L, .slice A R.length c], .func (.func 79) #[] #[.pointer p1, .pointer p2]] w (OpenedPost T O L A R c b w) := opened_any T O L A R c 79 #[.pointer p1, .pointer p2] b w hR hc hG hcl (.inr (.inr (.inl ⟨rfl, _, _, rfl⟩)))
theorem opened_always (T O L : Int) (A : Option Addr) (R : List S66) (c : Nat) (b : Bool) (w : World) (hR : Kd.C k66 w A R.length R) (hc : R.length ≤ c) (hG : Glob w)
  (hcl : okScale T O L R = true → ∀ (W : World) (m : Nat), Ctx w W T A R m → Calls Tryd.prog 70 #[.agg #[.int .i64 T, .int .i64 O, .int .i64 L, .slice A R.length c, .map (some m)]] W fun e W' => e = .returned (.bool b) ∧ Memo T R W' m ∧ Kp m W W') :
  Calls Tryd.prog 53 #[.agg #[.int .i64 T, .int .i64 O, .int .i64 L, .slice A R.length c], .func (.func 70) #[] #[]] w (OpenedPost T O L A R c b w) := opened_any T O L A R c 70 #[] b w hR hc hG hcl (.inr (.inr (.inr ⟨rfl, rfl⟩)))
end Go.Proofs.YtagkfkdoibnhfaaDoor.K
end
section
namespace Go.Proofs.YtagkfkdoibnhfaaDoor.K
open Go.RowKit Go.Proofs.YtagkfkdoibnhfaaDoorW.PrintWords Go.Proofs.YtagkfkdoibnhfaaDoorW.PrintLast Go.Proofs.YtagkfkdoibnhfaaDoorW.PrintMore Go.Proofs.YtagkfkdoibnhfaaDoor.H
set_option linter.unusedVariables false
set_option linter.unusedSimpArgs false
theorem OpenedPost.bad {T O L : Int} {A : Option Addr} {R : List S66} {c : Nat} {b : Bool} {w : World} {e : Ending} {w' : World} {n : Int} (h : OpenedPost T O L A R c b w e w') (hb : okScale T O L R = false ∧ n = 60 ∨ okScale T O L R = true ∧ b = false ∧ n = 61) :
  e = .returned (.tuple #[.agg #[.int .i64 0, .int .i64 0, .int .i64 0, .slice none 0 0, .map none], .int .i64 n]) ∧ Below w.heap.size w w' := by
 rcases hb with ⟨g1, rfl⟩ | ⟨g1, g2, rfl⟩
 ·exact h.1 g1
 ·exact h.2.1 g1 g2
theorem bar_len (x : S66) (a b : Int) : (bar x a b).length ≤ 4 := by
 unfold bar
 repeat' split
 all_goals simp
theorem strokes_len (T : Int) (R : List S66) (r a b : Int) : (strokes T R r a b).length ≤ 4 := by unfold strokes; rw [List.length_map]; exact bar_len _ _ _
theorem partOf_snoc (T : Int) (R : List S66) (r a b : Int) : ∀ (n : Nat) (l : List Int), l.length = 2 * n → partOf T R r (l ++ [a, b]) = partOf T R r l ++ strokes T R r a b
 | 0, [], _ => by simp [partOf]
 | n + 1, x :: y :: l, h => by
  have ih := partOf_snoc T R r a b n l (by simp at h; omega)
  simp only [List.cons_append, partOf, ih, List.append_assoc]
 | 0, x :: l, h => by simp at h
 | n + 1, [], h => by simp at h
 | n + 1, [x], h => by simp at h; omega
theorem partOf_take (T : Int) (R : List S66) (r : Int) (l : List Int) (k : Nat) (h : 2 * k + 1 < l.length) : partOf T R r (l.take (2 * (k + 1))) = partOf T R r (l.take (2 * k)) ++ strokes T R r l[2 * k] l[2 * k + 1] := by
 have e : l.take (2 * (k + 1)) = l.take (2 * k) ++ [l[2 * k], l[2 * k + 1]] := by
  rw [show 2 * (k + 1) = 2 * k + 1 + 1 from by omega, List.take_succ_eq_append_getElem h, List.take_succ_eq_append_getElem (by omega), List.append_assoc]
  rfl
 rw [e, partOf_snoc T R r _ _ k _ (by simp; omega)]
theorem partOf_len (T : Int) (R : List S66) (r : Int) : ∀ l : List Int, (partOf T R r l).length ≤ 4 * l.length
 | [] => by simp [partOf]
 | [a] => by simp [partOf]
 | a :: b :: l => by
  have ih := partOf_len T R r l
  have h := strokes_len T R r a b
  simp only [partOf, List.length_append, List.length_cons]
  omega
theorem bar_pos (x : S66) (a b : Int) : 0 < (bar x a b).length := by
 unfold bar
 repeat' split
 all_goals simp
theorem partOf_pos (T : Int) (R : List S66) (r : Int) : ∀ l : List Int, 2 ≤ l.length → 0 < (partOf T R r l).length
 | [], h => by simp at h
 | [a], h => by simp at h
 | a :: b :: l, _ => by
  have h := bar_pos (regAt R r) a b
  simp only [partOf, strokes, List.length_append, List.length_map]
  omega
theorem okPart_get {T O L : Int} {R : List S66} {l : List Int} {r : Int} (h : okPart T O L R l r = true) : (l.length : Int) = L ∧ 0 ≤ r ∧ r < R.length ∧ ∀ t ∈ l, 0 ≤ t ∧ t < T * O := by
 unfold okPart at h
 simp only [Bool.and_eq_true, decide_eq_true_eq, List.all_eq_true] at h
 exact ⟨h.1.1.1, h.1.1.2, h.1.2, h.2⟩
def PartPost (l : List Int) (n : Int) (w : World) (e : Ending) (w' : World) : Prop :=
 ∃ v0_ : Value, e = .returned (.tuple #[v0_, .int .i64 n]) ∧ Kd.V (Kd.int .i64) 3 w' w.heap.size (fun k_ => w.heap.size ≤ k_) v0_ l ∧ Below w.heap.size w w'
set_option maxRecDepth 100000 in
set_option maxHeartbeats 4000000 in
theorem part_bad (T O L r : Int) (A : Option Addr) (R : List S66) (c : Nat) (A1 : Option Addr) (c1 : Nat) (l : List Int) (w : World) (hR : Kd.C k66 w A R.length R) (hc : R.length ≤ c) (hl : Kd.C (Kd.int .i64) w A1 l.length l) (hG : Glob w)
  (n : Int) (hn0 : n ≠ 0) (hb : okScale T O L R = false ∧ n = 60 ∨ okScale T O L R = true ∧ okPart T O L R l r = false ∧ n = 61) :
  Calls Tryd.prog 16 #[.agg #[.int .i64 T, .int .i64 O, .int .i64 L, .slice A R.length c], .slice A1 l.length c1, .int .i64 r] w (PartPost [] n w) := by
 have hu24 := Tryd.underlying24
 have hu78 := Tryd.underlying78
 have HB0 := zh (below_alloc (below_alloc (below_alloc (Below.refl w.heap.size w) (.cells #[.int .i64 T, .int .i64 O, .int .i64 L, .slice A R.length c] 24)) (.cells #[.slice A1 l.length c1] 25)) (.cells #[.int .i64 r] 3))
 have HR := zh (Kd.C_below hR HB0.out)
 have HL := zh (Kd.C_below hl HB0.out)
 have HG := zh (hG.below HB0.out)
 have HCL := zh (show okScale T O L R = true → ∀ (W : World) (m : Nat), Ctx (((w.alloc (.cells #[.int .i64 T, .int .i64 O, .int .i64 L, .slice A R.length c] 24)).alloc (.cells #[.slice A1 l.length c1] 25)).alloc (.cells #[.int .i64 r] 3)) W T A R m →
   Calls Tryd.prog 54 #[.agg #[.int .i64 T, .int .i64 O, .int .i64 L, .slice A R.length c, .map (some m)], .pointer (some ⟨w.heap.size + 1, 0, none⟩), .pointer (some ⟨w.heap.size + 2, 0, none⟩)] W fun e W' => e = .returned (.bool (okPart T O L R l r)) ∧ Memo T R W' m ∧ Kp m W W' from fun hok W m hx => by
  obtain ⟨t1, t2, t3, t4, t5, t6, _, _, t9, _⟩ := okScale_regs hok
  have hm := mul_range t1 t2 t3 t4
  refine (part1_loop T O L r A R c m (w.heap.size + 1) (w.heap.size + 2) A1 c1 l W (Kd.C_below HL.out hx.base) ((hx.base.block _ (by simp)).trans (blk_alloc (alloc_at _ _ _ (by simp)) _)) ((hx.base.block _ (by simp)).trans (alloc_at _ _ _ (by simp))) (by omega) (by omega) (by omega) (by omega) t9).mono ?_
  rintro e w' ⟨rfl, hb'⟩
  exact ⟨rfl, hx.memo.below hb', Kp.of_below hb'⟩)
 have HBAD := zh hb
 have hn' : (n == 0) = false := beq_eq_false_iff_ne.2 hn0
 have hn'' : (n != 0) = true := bne_iff_ne.2 hn0
 clear hR hl hG hb hn0
 go_enter Tryd.func16, Tryd.ntmps16
 go_wp2_with (first | (go_at_call 53; (with_reducible refine (opened_part T O L A R c _ _ (okPart T O L R l r) _ HR.out hc HG.out HCL.out).mono ?_); rintro e w1 hp; obtain ⟨rfl, hb1⟩ := hp.bad HBAD.out; have HB1 := zh (HB0.out.trans (hb1.mono (by simp; omega))); clear hp hb1))
 go_ret2
 exact ⟨_, rfl, Kd.V_nil _ _ _ _ _, below_alloc HB1.out _⟩
theorem Ctx.elder {w w0 W : World} {T : Int} {A : Option Addr} {R : List S66} {m : Nat} (h : Ctx w0 W T A R m) (hb : Below w.heap.size w w0) (hR : Kd.C k66 w A R.length R) (hG : Glob w) : Ctx w W T A R m :=
 { h with base := hb.trans (h.base.mono hb.size), hm := Nat.le_trans hb.size h.hm, regs := hR, glob := hG }
theorem OpenedPost.good {T O L : Int} {A : Option Addr} {R : List S66} {c : Nat} {b : Bool} {w : World} {e : Ending} {w' : World} (h : OpenedPost T O L A R c b w e w') (h1 : okScale T O L R = true) (h2 : b = true) :
  ∃ m, e = .returned (.tuple #[.agg #[.int .i64 T, .int .i64 O, .int .i64 L, .slice A R.length c, .map (some m)], .int .i64 0]) ∧ Ctx w w' T A R m := h.2.2 h1 h2
def fPart.T8 : Bool × List (List Nat × List Nat) := (true, [([], []), ([], []), ([], []), ([], []), ([], []), ([4], [4]), ([3, 5], [3, 5]), ([6], [6]), ([], []), ([], []), ([9], [9]), ([10], [10]), ([8, 11], [8, 11]), ([12], [12]), ([7, 13], [7, 13]), ([1, 2, 14], [1, 2, 14]), ([0, 15, 15], [0, 15]), ([16, 16, 0, 1, 2, 3, 4, 5, 6, 7, 8, 9, 10, 11, 12, 13, 14, 15, 16], [0, 16])])
def fPart.B8 : List Nat := [0, 0, 0, 0, 0, 16, 56, 120, 0, 0, 512, 1536, 3840, 7936, 16376, 32766, 65535, 131071]
theorem fPart.tab8 : rtab .any (opsOf Tryd.f16 8) = fPart.T8 := by kernel_rfl
theorem fPart.bits8 : waitsOk fPart.T8.2 fPart.B8 = true := by kernel_rfl
set_option maxRecDepth 100000 in
set_option maxHeartbeats 4000000 in
theorem part_ok (T O L r : Int) (A : Option Addr) (R : List S66) (c : Nat) (A1 : Option Addr) (c1 : Nat) (l : List Int) (w : World) (hR : Kd.C k66 w A R.length R) (hc : R.length ≤ c) (hl : Kd.C (Kd.int .i64) w A1 l.length l) (hG : Glob w)
  (h1 : okScale T O L R = true) (h2 : okPart T O L R l r = true) :
  Calls Tryd.prog 16 #[.agg #[.int .i64 T, .int .i64 O, .int .i64 L, .slice A R.length c], .slice A1 l.length c1, .int .i64 r] w (PartPost (partOf T R r l) 0 w) := by
 have hu24 := Tryd.underlying24
 have hu78 := Tryd.underlying78
 have HB0 := zh (below_alloc (below_alloc (below_alloc (Below.refl w.heap.size w) (.cells #[.int .i64 T, .int .i64 O, .int .i64 L, .slice A R.length c] 24)) (.cells #[.slice A1 l.length c1] 25)) (.cells #[.int .i64 r] 3))
 have HR := zh (Kd.C_below hR HB0.out)
 have HL := zh (Kd.C_below hl HB0.out)
 have HG := zh (hG.below HB0.out)
 have HCL := zh (show okScale T O L R = true → ∀ (W : World) (m : Nat), Ctx (((w.alloc (.cells #[.int .i64 T, .int .i64 O, .int .i64 L, .slice A R.length c] 24)).alloc (.cells #[.slice A1 l.length c1] 25)).alloc (.cells #[.int .i64 r] 3)) W T A R m →
   Calls Tryd.prog 54 #[.agg #[.int .i64 T, .int .i64 O, .int .i64 L, .slice A R.length c, .map (some m)], .pointer (some ⟨w.heap.size + 1, 0, none⟩), .pointer (some ⟨w.heap.size + 1 + 1, 0, none⟩)] W fun e W' => e = .returned (.bool (okPart T O L R l r)) ∧ Memo T R W' m ∧ Kp m W W' from fun hok W m hx => by
  obtain ⟨t1, t2, t3, t4, t5, t6, _, _, t9, _⟩ := okScale_regs hok
  have hm := mul_range t1 t2 t3 t4
  refine (part1_loop T O L r A R c m (w.heap.size + 1) (w.heap.size + 1 + 1) A1 c1 l W (Kd.C_below HL.out hx.base) ((hx.base.block _ (by simp)).trans (blk_alloc (alloc_at _ _ _ (by simp)) _)) ((hx.base.block _ (by simp)).trans (alloc_at _ _ _ (by simp))) (by omega) (by omega) (by omega) (by omega) t9).mono ?_
  rintro e w' ⟨rfl, hb'⟩
  exact ⟨rfl, hx.memo.below hb', Kp.of_below hb'⟩)
 obtain ⟨t1, t2, t3, t4, t5, t6, t7, t8, t9, t10⟩ := okScale_regs h1
 obtain ⟨p1, p2, p3, p4⟩ := okPart_get h2
 obtain ⟨n, hn⟩ : ∃ n : Nat, l.length = 2 * n := ⟨l.length / 2, by omega⟩
 have mr := mul_range t1 t2 t3 t4
 have HP4 := zh p4
 have HR0 := zh hR
 have HL0 := zh hl
 have HG0 := zh hG
 have HOK := zh h1
 have HOP := zh h2
 have HLEN := zh hn
 have n1 : 1 ≤ n := by omega
 have n8 : n ≤ 8 := by omega
 have hlb : (l.length : Int) ≤ 16 := by omega
 clear hR hl hG h1 h2 t3 t4 t5 t6 t7 t8 t10 p1 p4 hn
 go_enter Tryd.func16, Tryd.ntmps16
 go_wp2_with (first | (go_at_call 53; (with_reducible refine (opened_part T O L A R c _ _ (okPart T O L R l r) _ HR.out hc HG.out HCL.out).mono ?_); rintro e w1 hp; obtain ⟨m, rfl, hx⟩ := hp.good HOK.out HOP.out; have Q1 := zh ((hx.base.block (w.heap.size + 1) (by simp)).trans (blk_alloc (alloc_at _ _ _ (by simp)) _)); have Q2 := zh ((hx.base.block (w.heap.size + 1 + 1) (by simp)).trans (alloc_at _ _ _ (by simp))); have HX := zh (hx.elder HB0.out HR0.out HG0.out); clear hp hx; have z1 := cell_a1 ((blk_cell Q1.out 0).trans (show _ = some (Value.slice A1 l.length c1) from rfl)) (.cells #[.int .i64 T, .int .i64 O, .int .i64 L, .slice A R.length c, .map (some m)] 78)))
 have hq2 := blk_lt Q2.out
 have hmw := HX.out.memo.lt
 have B8 := zh (alloc_at w1 (.cells #[.int .i64 T, .int .i64 O, .int .i64 L, .slice A R.length c, .map (some m)] 78) w1.heap.size rfl)
 have X8 := zh (HX.out.below (below_alloc (Below.refl w1.heap.size w1) (.cells #[.int .i64 T, .int .i64 O, .int .i64 L, .slice A R.length c, .map (some m)] 78)))
 have Q1a := zh (blk_alloc Q1.out (.cells #[.int .i64 T, .int .i64 O, .int .i64 L, .slice A R.length c, .map (some m)] 78))
 have Q2a := zh (blk_alloc Q2.out (.cells #[.int .i64 T, .int .i64 O, .int .i64 L, .slice A R.length c, .map (some m)] 78))
 have hlen2 : (l.length : Int) / 2 = n := by have := HLEN.out; omega
 have HL2 := zh hlen2
 clear z1 hlen2
 go_loopw [10, 24] (fun v u wr => ∃ k : Nat, k ≤ n ∧ u = .int .i64 k ∧ Aside0 (Kd.R (Kd.int .i64) 3 wr w.heap.size (fun k_ => w1.heap.size < k_) v (partOf T R r (l.take (2 * k)))) ∧ Aside0 (Ctx w wr T A R m) ∧ Aside0 (wr.heap[w1.heap.size]? = some (.cells #[.int .i64 T, .int .i64 O, .int .i64 L, .slice A R.length c, .map (some m)] 78 (0, 0))) ∧ Aside0 (wr.heap[w.heap.size + 1]? = some (.cells #[.slice A1 l.length c1] 25 (0, 0))) ∧ Aside0 (wr.heap[w.heap.size + 1 + 1]? = some (.cells #[.int .i64 r] 3 (0, 0)))) (fun _ u _ => n - (intOf u).toNat)
 case atStart => exact ⟨0, Nat.zero_le _, rfl, ⟨by rw [Nat.mul_zero, List.take_zero]; exact Kd.R_nil _ _ _ _ _⟩, X8, B8, Q1a, Q2a⟩
 case round =>
  obtain ⟨k, hk, rfl, HO, XC, C8, D1, D2⟩ := hrel
  by_cases hlt : k < n
  ·have ht : (k : Int) < (l.length : Int) / 2 := by have := HL2.out; omega
   have hk1 : 2 * k + 1 < l.length := by have := HLEN.out; omega
   obtain ⟨ad, hA, hy0⟩ := C_int_at HL0.out (2 * k) (by omega)
   obtain ⟨ad', hA', hy1⟩ := C_int_at HL0.out (2 * k + 1) hk1
   obtain rfl : ad = ad' := Option.some.inj (hA.symm.trans hA')
   subst hA
   clear hA'
   rw [List.getD_eq_getElem?_getD, List.getElem?_eq_getElem (by omega), Option.getD_some] at hy0 hy1
   have ht0 := HP4.out _ (List.getElem_mem (show 2 * k < l.length by omega))
   have ht1 := HP4.out _ (List.getElem_mem hk1)
   have HS := zh (partOf_take T R r l k hk1)
   generalize l[2 * k] = a at hy0 ht0 HS
   generalize l[2 * k + 1] = b at hy1 ht1 HS
   have ha0 := ht0.1
   have ha1 : a ≤ 100 := by omega
   have hb0 := ht1.1
   have hb1 : b ≤ 100 := by omega
   clear ht0 ht1
   go_wp2
   have XC2 : Aside0 (Ctx w wr.drew T (A) R m) := ⟨XC.out.below (below_drew1 (Below.refl _ _))⟩
   have HO2 : Aside0 (Kd.R (Kd.int .i64) 3 wr.drew w.heap.size (fun k_ => w1.heap.size < k_) u10 (partOf T R r (l.take (2 * k)))) := ⟨Kd.R_drew HO.out⟩
   have C82 := zh (show wr.drew.heap[w1.heap.size]? = _ from C8.out)
   have D12 := zh (show wr.drew.heap[w.heap.size + 1]? = _ from D1.out)
   have D22 := zh (show wr.drew.heap[w.heap.size + 1 + 1]? = _ from D2.out)
   have n8 : w1.heap.size ≠ m := by rintro rfl; exact XC2.out.memo.no_cells C82.out
   have n1' : w.heap.size + 1 ≠ m := by rintro rfl; exact XC2.out.memo.no_cells D12.out
   have n2' : w.heap.size + 1 + 1 ≠ m := by rintro rfl; exact XC2.out.memo.no_cells D22.out
   have hpl := partOf_len T R r (l.take (2 * k))
   have hsl := strokes_len T R r a b
   rw [List.length_take] at hpl
   have s1 : IntKind.i64.wrap (2 * (k : Int)) = 2 * (k : Int) := by (try rw [i64_w]); (first | exact w64 (by omega) (by omega) | exact IntWalk.i64_in _ (by omega))
   have s2 : IntKind.i64.wrap (2 * (k : Int) + 1) = 2 * (k : Int) + 1 := by (try rw [i64_w]); (first | exact w64 (by omega) (by omega) | exact IntWalk.i64_in _ (by omega))
   have s3 : (0 : Int) ≤ 2 * (k : Int) := by omega
   have s4 : 2 * (k : Int) < (l.length : Int) := by omega
   have s5 : (0 : Int) ≤ 2 * (k : Int) + 1 := by omega
   have s6 : 2 * (k : Int) + 1 < (l.length : Int) := by omega
   have s7 : (2 * (k : Int)).toNat = 2 * k := by omega
   have s8 : (2 * (k : Int) + 1).toNat = 2 * k + 1 := by omega
   refine start_ (n := 18) (S := fun w' => w'.cell? ⟨w1.heap.size, 0, none⟩ = some (.int .i64 T) ∧ w'.cell? ⟨w1.heap.size, 1, none⟩ = some (.int .i64 O) ∧ w'.cell? ⟨w1.heap.size, 2, none⟩ = some (.int .i64 L) ∧ w'.cell? ⟨w1.heap.size, 3, none⟩ = some (.slice A R.length c) ∧ w'.cell? ⟨w1.heap.size, 4, none⟩ = some (.map (some m)) ∧ w'.cell? ⟨w.heap.size + 1, 0, none⟩ = some (.slice (some ad) l.length c1) ∧ w'.cell? ⟨w.heap.size + 1 + 1, 0, none⟩ = some (.int .i64 r) ∧ w'.cell? (ad.add (2 * k)) = some (.int .i64 a) ∧ w'.cell? ⟨ad.block, ad.off + (2 * k + 1), none⟩ = some (.int .i64 b)) (ds := []) (Array.replicate 18 false) zk rfl rfl ⟨vb C82 0, vb C82 1, vb C82 2, vb C82 3, vb C82 4, vb D12 0, vb D22 0, (XC2.out.base.cell (World.block_lt_of_cell? w _ hy0)).trans hy0, (XC2.out.base.cell (World.block_lt_of_cell? w _ hy1)).trans hy1⟩ (fun hHeld => ?_)
   refine with_tabW fPart.tab8 fPart.bits8 (fun HT_ HW_ => ?_)
   generalize wr.drew = W2 at HO2 XC2 C82 D12 D22 hHeld ⊢
   refine zu 0 ?_
   refine zu 4 ?_
   refine zu 5 ?_
   refine zu 9 ?_
   refine zu 10 ?_
   refine zu 11 ?_
   refine zt 1 ?_
   refine zt 2 ?_
   refine zt 3 ?_
   refine zu 6 ?_
   refine zt 7 ?_
   refine zt 8 ?_
   refine zu 12 ?_
   refine zt 13 ?_
   refine zu 14 ?_
   refine zo 15 (fun K hK => ?_)
   refine goes_ Tryd.func57 zk rfl #[.agg #[.int .i64 T, .int .i64 O, .int .i64 L, .slice A R.length c, .map (some m)], .int .i64 r, .agg #[.int .i64 a, .int .i64 b]] (by rfl) rfl rfl dQ5 ?_
   with_reducible refine (strokes_calls T O L r a b A R c m w _ XC2.out p2 p3 ha0 ha1 hb0 hb1).mono ?_
   rintro e w3 ⟨v, rfl, hs, hm3, hk3⟩
   refine ⟨_, rfl, ?_⟩
   have HO3 := zh (R_kept XC2.out.memo hk3 HO2.out)
   have XC3 := zh (XC2.out.step hk3 hm3)
   have C83 := zh ((hk3.block _ (blk_lt C82.out) n8).trans C82.out)
   have D13 := zh ((hk3.block _ (blk_lt D12.out) n1').trans D12.out)
   have D23 := zh ((hk3.block _ (blk_lt D22.out) n2').trans D22.out)
   obtain ⟨A3, c3, rfl, hl3, hC3⟩ := Kd.R_reads hs
   clear hs hm3 hk3
   refine hK.out _ _ ⟨vb C83 0, vb C83 1, vb C83 2, vb C83 3, vb C83 4, vb D13 0, vb D23 0, (XC3.out.base.cell (World.block_lt_of_cell? w _ hy0)).trans hy0, (XC3.out.base.cell (World.block_lt_of_cell? w _ hy1)).trans hy1⟩ (fun hHeld => ?_)
   clear hK K
   refine zr 42 _ ?_
   refine zo 16 (fun K hK => ?_)
   refine Kd.R_append_rows_step (Kd.int .i64) (w0 := w) w.heap.size (by rfl) (.tmp 27) (.tmp 42) 25 3 (.int .i64 0) 8 rfl Tryd.underlying25 info3 rfl (by decide) (by omega) u10 (partOf T R r (l.take (2 * k))) (strokes T R r a b) A3 _ c3 (fun k_ => w1.heap.size < k_) (fun _ => False) rfl rfl ?aO ?aR (fun _ _ h => h) (fun _ h => h.elim) ?aF ?aB ?aS ?aL ?_
   (case aO => exact HO3.out)
   (case aR => exact hC3)
   (case aF => exact fun k_ h_ => Nat.lt_of_lt_of_le (blk_lt C83.out) h_)
   (case aB => exact XC3.out.base)
   (case aS => exact XC3.out.base.size)
   (case aL => omega)
   intro v1 w4 hO4 hB4 hg4 hat
   have HO4 := zh hO4
   have XC4 := zh (show Ctx w w4 T (A) R m from { XC3.out with base := hB4, memo := XC3.out.memo.move (hg4.block m XC3.out.memo.lt (fun e_ => ((R_nomap XC3.out.memo HO3.out).1 m e_.symm).2 rfl)) })
   have C84 := zh ((hg4.block _ (blk_lt C83.out) (fun e_ => Nat.lt_irrefl _ (HO3.out.1 _ e_.symm))).trans C83.out)
   have D14 := zh ((hg4.block _ (blk_lt D13.out) (fun e_ => absurd (HO3.out.1 _ e_.symm) (by omega))).trans D13.out)
   have D24 := zh ((hg4.block _ (blk_lt D23.out) (fun e_ => absurd (HO3.out.1 _ e_.symm) (by omega))).trans D23.out)
   clear hO4 hB4 hg4 hat
   refine hK.out _ _ ⟨vb C84 0, vb C84 1, vb C84 2, vb C84 3, vb C84 4, vb D14 0, vb D24 0, (XC4.out.base.cell (World.block_lt_of_cell? w _ hy0)).trans hy0, (XC4.out.base.cell (World.block_lt_of_cell? w _ hy1)).trans hy1⟩ (fun hHeld => ?_)
   clear hK K
   refine zr 43 _ ?_
   refine zu 17 ?_
   refine zd ?_
   try go_wp2
   go_roundw
   case rel => exact ⟨k + 1, by omega, by go_num, ⟨by rw [HS.out]; exact HO4.out⟩, XC4, C84, D14, D24⟩
   case measure => simp [intOf]; omega
  ·obtain rfl : k = n := by omega
   have ht : ¬ (k : Int) < (l.length : Int) / 2 := by have := HL2.out; omega
   have hall : l.take (2 * k) = l := by rw [← HLEN.out, List.take_length]
   have hO := HO.out
   rw [hall] at hO
   have hne : 0 < (partOf T R r l).length := partOf_pos T R r l (by have := HLEN.out; omega)
   obtain ⟨g, cap, rfl, hg1, hg2, cells, hg3⟩ := Kd.R_form hO hne
   have HO2 := zh hO
   have hcp : ((partOf T R r l).length : Int) ≤ (cap : Int) := by have := (Kd.R_reads' hO).2.1; omega
   have h00 : (0 : Int) ≤ ((partOf T R r l).length : Int) := by omega
   have hle : ((partOf T R r l).length : Int) ≤ ((partOf T R r l).length : Int) := by omega
   have htn : ((partOf T R r l).length : Int).toNat = (partOf T R r l).length := by omega
   clear hO hall hg3
   go_wp2
   go_ret2
   exact ⟨_, rfl, Kd.V_mk (Nat.le_refl _) (Kd.R_F (Kd.R_mono (Kd.R_bound HO2.out) (fun _ hk => hk.2.1))), XC.out.base⟩
end Go.Proofs.YtagkfkdoibnhfaaDoor.K
end
section
namespace Go.Proofs.YtagkfkdoibnhfaaDoor.K
open Go.RowKit Go.Proofs.YtagkfkdoibnhfaaDoorW.PrintWords Go.Proofs.YtagkfkdoibnhfaaDoorW.PrintLast Go.Proofs.YtagkfkdoibnhfaaDoorW.PrintMore Go.Proofs.YtagkfkdoibnhfaaDoor.H
set_option linter.unusedVariables false
set_option linter.unusedSimpArgs false
theorem beq_dec (a b : Int) : (a == b) = decide (a = b) := by rw [Bool.eq_iff_iff]; simp
theorem drawn_below {w w' : World} (h : Drawn0 w w') : Below w.heap.size w w' := by
 obtain ⟨nd, rfl⟩ := h
 exact pw_below_drewN (Below.refl _ _) _
theorem width_len (x : S66) (a b : Int) : (bar x a b).length = width x := by
 unfold bar width
 repeat' split
 all_goals first | rfl | omega
theorem strokes_width (T : Int) (R : List S66) (r a b : Int) : (strokes T R r a b).length = width (regAt R r) := by unfold strokes; rw [List.length_map, width_len]
theorem width_le (x : S66) : width x ≤ 4 := by
 unfold width
 repeat' split
 all_goals omega
theorem width_pos (x : S66) : 1 ≤ width x := by
 unfold width
 repeat' split
 all_goals omega
theorem C_60_at {w : World} {A : Option Addr} {n : Nat} {l : List S60} (h : Kd.C k60 w A n l) (k : Nat) (hk : k < l.length) : ∃ ad A1 c1, A = some ad ∧ w.cell? (ad.add (k * 2)) = some (.int .i64 l[k].f0) ∧ w.cell? ⟨(ad.add (k * 2)).block, (ad.add (k * 2)).off + 1, none⟩ = some (.slice A1 l[k].f1.length c1) ∧ l[k].f1.length ≤ c1 ∧ Kd.C (Kd.int .i64) w A1 l[k].f1.length l[k].f1 := by
 have hn : l.length = n := h.1
 have e : rd_T60 l (k : Int) = l[k] := by unfold rd_T60; simp [hk]
 obtain ⟨ad, A1, c1, h1, h2, h3, h4, h5⟩ := at_T60 h (k : Int) (by omega) (by omega)
 rw [e] at h2 h3 h4 h5
 rw [Int.toNat_natCast] at h2 h3
 exact ⟨ad, A1, c1, h1, h2, h3, h4, h5⟩
def heardOk (l : List Int) (k : Nat) : Bool := (l.take k).all fun n => decide (-2 ≤ n) && decide (n ≤ 40)
theorem heardOk_zero (l : List Int) : heardOk l 0 = true := by simp [heardOk]
theorem heardOk_succ (l : List Int) (k : Nat) (h : k < l.length) : heardOk l (k + 1) = (heardOk l k && (decide (-2 ≤ l[k]) && decide (l[k] ≤ 40))) := by
 unfold heardOk
 rw [List.take_succ_eq_append_getElem h, List.all_append]
 simp
def entriesOk (L : Int) (R : List S66) (hs : List S60) (k : Nat) : Bool := (hs.take k).all (okHeard1 L R)
theorem entriesOk_zero (L : Int) (R : List S66) (hs : List S60) : entriesOk L R hs 0 = true := by simp [entriesOk]
theorem entriesOk_succ (L : Int) (R : List S66) (hs : List S60) (k : Nat) (h : k < hs.length) : entriesOk L R hs (k + 1) = (entriesOk L R hs k && okHeard1 L R hs[k]) := by
 unfold entriesOk
 rw [List.take_succ_eq_append_getElem h, List.all_append]
 simp
theorem okHeard_eq (L : Int) (R : List S66) (hs : List S60) : okHeard L R hs = ((decide (1 ≤ (hs.length : Int)) && decide ((hs.length : Int) ≤ 5)) && entriesOk L R hs hs.length) := by
 unfold okHeard entriesOk
 rw [List.take_length]
 congr 1
 congr 1 <;> rw [decide_eq_decide] <;> omega
def fHeard.T6 : Bool × List (List Nat × List Nat) := (true, [([], []), ([0], [0]), ([1], [1]), ([2, 1], [1, 2]), ([3, 1], [1, 3]), ([1], [1]), ([5, 1], [1, 5]), ([6, 1], [1, 6]), ([7, 1], [1, 7]), ([1], [1]), ([1], [1]), ([10, 1], [1, 10]), ([1], [1]), ([9, 11, 12, 1, 1], [1, 9, 11, 12]), ([13, 1], [1, 13]), ([8, 14, 1], [1, 8, 14]), ([4, 15, 1], [1, 4, 15]), ([1, 16], [1, 16]), ([17, 13, 0, 1, 2, 3, 4, 5, 6, 7, 8, 9, 10, 11, 12, 13, 14, 15, 16, 17], [0, 17])])
def fHeard.B6 : List Nat := [0, 1, 3, 7, 15, 3, 35, 99, 227, 3, 3, 1027, 3, 7683, 15875, 32739, 65535, 131071, 262143]
theorem fHeard.tab6 : rtab .any (opsOf Tryd.f83 6) = fHeard.T6 := by kernel_rfl
theorem fHeard.bits6 : waitsOk fHeard.T6.2 fHeard.B6 = true := by kernel_rfl
set_option maxRecDepth 100000 in
set_option maxHeartbeats 8000000 in
theorem isHeard_calls (T O L : Int) (A : Option Addr) (R : List S66) (c m : Nat) (A1 : Option Addr) (c1 : Nat) (hs : List S60) (w0 W : World) (hx : Ctx w0 W T A R m) (hl : Kd.C k60 w0 A1 hs.length hs) (hL : 2 ≤ L) (hL' : L ≤ 16) (hn : R.length ≤ 5) :
  Calls Tryd.prog 83 #[.agg #[.int .i64 T, .int .i64 O, .int .i64 L, .slice A R.length c, .map (some m)], .slice A1 hs.length c1] W
   fun e W' => e = .returned (.bool (okHeard L R hs)) ∧ Memo T R W' m ∧ Kp m W W' := by
 have hu24 := Tryd.underlying24
 have hu60 := Tryd.underlying60
 have hu78 := Tryd.underlying78
 have hu84 := Tryd.underlying84
 have hls : hs.length ≤ 9223372036854775807 := hl.2.1
 have HL := zh hl
 have HB0 := zh (below_alloc (Below.refl W.heap.size W) (.cells #[.int .i64 T, .int .i64 O, .int .i64 L, .slice A R.length c, .map (some m)] 78))
 have X0 := zh (hx.below HB0.out)
 have C80 := zh (alloc_at W (.cells #[.int .i64 T, .int .i64 O, .int .i64 L, .slice A R.length c, .map (some m)] 78) W.heap.size rfl)
 have HF := zh (in_f (hs.length : Int) 1 5)
 clear hl hx
 go_enter Tryd.func83, Tryd.ntmps83
 go_wp2_with (first | ((go_at_call 55; (with_reducible refine (kernel_in.calls (hs.length : Int) 1 5 _ _ HF.out).mono ?_)); rintro e w1 ⟨rfl, hd⟩; have HB1 := zh (drawn_below hd); clear hd))
 go_loopw [5, 15] (fun o u wr => ∃ (k : Nat) (ok : Bool), k ≤ hs.length ∧ u = .int .i64 k ∧ o = .bool ok ∧ Aside0 (ok = ((decide (1 ≤ (hs.length : Int)) && decide ((hs.length : Int) ≤ 5)) && entriesOk L R hs k)) ∧ Aside0 (Ctx w0 wr T A R m) ∧ Aside0 (wr.heap[W.heap.size]? = some (.cells #[.int .i64 T, .int .i64 O, .int .i64 L, .slice A R.length c, .map (some m)] 78 (0, 0))) ∧ Aside0 (Kp m W wr)) (fun _ u _ => hs.length - (intOf u).toNat)
 case atStart => exact ⟨0, _, Nat.zero_le _, rfl, rfl, ⟨by rw [entriesOk_zero, Bool.and_true]⟩, ⟨X0.out.below HB1.out⟩, ⟨blk_below C80.out HB1.out⟩, ⟨(Kp.of_below HB0.out).trans (Kp.of_below HB1.out)⟩⟩
 case round =>
  obtain ⟨k, ok, hk, rfl, rfl, HO, XC, C8, KP⟩ := hrel
  by_cases hlt : k < hs.length
  ·obtain ⟨ad, A2, c2, rfl, y0, y1, hc2, hsa⟩ := C_60_at HL.out k hlt
   replace y0 := (XC.out.base.cell (World.block_lt_of_cell? w0 _ y0)).trans y0
   replace y1 := (XC.out.base.cell (World.block_lt_of_cell? w0 _ y1)).trans y1
   have HS := zh (entriesOk_succ L R hs k hlt)
   generalize hs[k] = x at y0 y1 hc2 hsa HS
   have hxl : x.f1.length ≤ 9223372036854775807 := hsa.2.1
   have z0 : wr.cell? ⟨W.heap.size, 0, none⟩ = some (.int .i64 T) := vb C8 0
   have z1 : wr.cell? ⟨W.heap.size, 1, none⟩ = some (.int .i64 O) := vb C8 1
   have z2 : wr.cell? ⟨W.heap.size, 2, none⟩ = some (.int .i64 L) := vb C8 2
   have z3 : wr.cell? ⟨W.heap.size, 3, none⟩ = some (.slice A R.length c) := vb C8 3
   have z4 : wr.cell? ⟨W.heap.size, 4, none⟩ = some (.map (some m)) := vb C8 4
   replace z0 := cell_a1 z0 (.cells #[.int .i64 x.f0, .slice A2 x.f1.length c2] 60)
   replace z1 := cell_a1 z1 (.cells #[.int .i64 x.f0, .slice A2 x.f1.length c2] 60)
   replace z2 := cell_a1 z2 (.cells #[.int .i64 x.f0, .slice A2 x.f1.length c2] 60)
   replace z3 := cell_a1 z3 (.cells #[.int .i64 x.f0, .slice A2 x.f1.length c2] 60)
   replace z4 := cell_a1 z4 (.cells #[.int .i64 x.f0, .slice A2 x.f1.length c2] 60)
   cases ok with
   | true =>
    by_cases hr : 0 ≤ x.f0 ∧ x.f0 < R.length
    ·obtain ⟨f0a, f0b⟩ := hr
     have HG := zh (show kernel_in.f x.f0 0 ((R.length : Int) - 1) = some true by rw [in_le, decide_eq_true f0a, decide_eq_true f0b]; rfl)
     go_wp2_with (first | ((go_at_call 55; (with_reducible refine (kernel_in.calls x.f0 0 ((R.length : Int) - 1) _ _ HG.out).mono ?_)); rintro e w2 ⟨rfl, hd⟩; have HB2 := zh (drawn_below hd); clear hd; have XC2 := zh ((XC.out.below (below_alloc (Below.refl wr.heap.size wr) (.cells #[.int .i64 x.f0, .slice A2 x.f1.length c2] 60))).below HB2.out); have C82 := zh (blk_below (blk_alloc C8.out (.cells #[.int .i64 x.f0, .slice A2 x.f1.length c2] 60)) HB2.out); have E82 := zh (blk_below (alloc_at wr (.cells #[.int .i64 x.f0, .slice A2 x.f1.length c2] 60) wr.heap.size rfl) HB2.out); have KP2 := zh ((KP.out.trans (Kp.of_below (below_alloc (Below.refl wr.heap.size wr) (.cells #[.int .i64 x.f0, .slice A2 x.f1.length c2] 60)))).trans (Kp.of_below HB2.out)); clear HB2))
     have hwx := width_le (regAt R x.f0)
     have s1 : IntKind.i64.wrap (L / 2 * ((width (regAt R x.f0) : Nat) : Int)) = L / 2 * ((width (regAt R x.f0) : Nat) : Int) := by
      have q0 : 0 ≤ L / 2 := by omega
      have q1 : L / 2 ≤ 8 := by omega
      generalize L / 2 = q at q0 q1
      obtain ⟨qn, rfl⟩ := Int.eq_ofNat_of_zero_le q0
      have qm : qn * width (regAt R x.f0) ≤ 8 * 4 := Nat.mul_le_mul (by omega) hwx
      have qz : ((qn : Int) * ((width (regAt R x.f0) : Nat) : Int)) = ((qn * width (regAt R x.f0) : Nat) : Int) := by simp
      rw [qz]
      exact IntWalk.i64_in _ ⟨by omega, by omega⟩
     have S2 : Aside0 (wrap64 (wrap64 (L.tdiv 2) * ((width (regAt R x.f0) : Nat) : Int)) = L / 2 * ((width (regAt R x.f0) : Nat) : Int)) := ⟨by
      rw [show wrap64 (L.tdiv 2) = L / 2 from by rw [Int.tdiv_eq_ediv_of_nonneg (by omega)]; exact w64 (by omega) (by omega), ← i64_w]
      exact s1⟩
     have XC2' := zh (XC2.out.below (below_drew1 (Below.refl _ _)))
     have C82' := zh (show w2.drew.heap[W.heap.size]? = _ from C82.out)
     have E82' := zh (show w2.drew.heap[wr.heap.size]? = _ from E82.out)
     have KP2' := zh (KP2.out.trans (Kp.of_below (below_drew1 (Below.refl w2.heap.size w2))))
     clear XC2 C82 E82 KP2 z0 z1 z2 z3 z4 y0 y1
     have XC2 := XC2'
     have C82 := C82'
     have E82 := E82'
     have KP2 := KP2'
     clear XC2' C82' E82' KP2'
     refine start_ (n := 19) (S := fun w' => w'.cell? ⟨W.heap.size, 0, none⟩ = some (.int .i64 T) ∧ w'.cell? ⟨W.heap.size, 1, none⟩ = some (.int .i64 O) ∧ w'.cell? ⟨W.heap.size, 2, none⟩ = some (.int .i64 L) ∧ w'.cell? ⟨W.heap.size, 3, none⟩ = some (.slice A R.length c) ∧ w'.cell? ⟨W.heap.size, 4, none⟩ = some (.map (some m)) ∧ w'.cell? ⟨wr.heap.size, 0, none⟩ = some (.int .i64 x.f0) ∧ w'.cell? ⟨wr.heap.size, 1, none⟩ = some (.slice A2 x.f1.length c2)) (ds := []) (Array.replicate 19 false) zk rfl rfl ⟨vb C82 0, vb C82 1, vb C82 2, vb C82 3, vb C82 4, vb E82 0, vb E82 1⟩ (fun hHeld => ?_)
     refine with_tabW fHeard.tab6 fHeard.bits6 (fun HT_ HW_ => ?_)
     generalize w2.drew = W3 at XC2 C82 E82 KP2 hHeld ⊢
     refine zu 0 ?_
     refine zu 1 ?_
     refine zu 2 ?_
     refine zu 5 ?_
     refine zu 6 ?_
     refine zu 10 ?_
     refine zu 12 ?_
     refine zt 3 ?_
     refine zu 4 ?_
     refine zt 7 ?_
     refine zu 8 ?_
     refine zt 9 ?_
     refine zt 11 ?_
     refine zo 13 (fun K hK => ?_)
     refine goes_ Tryd.func57 zk rfl #[.agg #[.int .i64 T, .int .i64 O, .int .i64 L, .slice A R.length c, .map (some m)], .int .i64 x.f0, .agg #[.int .i64 0, .int .i64 0]] (by rfl) rfl rfl dQ5 ?_
     with_reducible refine (strokes_calls T O L x.f0 0 0 A R c m w0 _ XC2.out f0a f0b (by omega) (by omega) (by omega) (by omega)).mono ?_
     rintro e w4 ⟨v, rfl, hs, hm4, hk4⟩
     refine ⟨_, rfl, ?_⟩
     have XC4 := zh (XC2.out.step hk4 hm4)
     have C84 := zh ((hk4.block _ (blk_lt C82.out) (fun e_ => XC2.out.memo.no_cells (e_ ▸ C82.out))).trans C82.out)
     have E84 := zh ((hk4.block _ (blk_lt E82.out) (fun e_ => XC2.out.memo.no_cells (e_ ▸ E82.out))).trans E82.out)
     have KP4 := zh (KP2.out.trans hk4)
     obtain ⟨A3, c3, rfl, hl3, hC3⟩ := Kd.R_reads hs
     rw [strokes_width]
     clear hs hm4 hk4 hC3 hl3
     refine hK.out _ _ ⟨vb C84 0, vb C84 1, vb C84 2, vb C84 3, vb C84 4, vb E84 0, vb E84 1⟩ (fun hHeld => ?_)
     clear hK K
     refine zr 43 _ ?_
     refine zu 14 ?_
     refine zu 15 ?_
     refine zu 16 ?_
     refine zu 17 ?_
     refine zu 18 ?_
     refine zd ?_
     clear s1
     have q0 : W3 = W3 := rfl
     have q5 := blk_cell E84.out 0
     have q6 := blk_cell E84.out 1
     try go_wp2
     have HSA := zh hsa
     go_loopw [5, 51] (fun o u wr2 => ∃ (j : Nat) (ok2 : Bool), j ≤ x.f1.length ∧ u = .int .i64 j ∧ o = .bool ok2 ∧ Aside0 (ok2 = (((x.f1.length : Int) == L / 2 * ((width (regAt R x.f0) : Nat) : Int)) && heardOk x.f1 j)) ∧ Aside0 (Ctx w0 wr2 T A R m) ∧ Aside0 (wr2.heap[W.heap.size]? = some (.cells #[.int .i64 T, .int .i64 O, .int .i64 L, .slice A R.length c, .map (some m)] 78 (0, 0))) ∧ Aside0 (Kp m W wr2)) (fun _ u _ => x.f1.length - (intOf u).toNat)
     case atStart => exact ⟨0, _, Nat.zero_le _, rfl, rfl, ⟨by rw [heardOk_zero, Bool.and_true, S2.out]⟩, XC4, C84, KP4⟩
     case round =>
      obtain ⟨j, ok2, hj, rfl, rfl, HO2, XD, D8, KD⟩ := hrel
      by_cases hlj : j < x.f1.length
      ·obtain ⟨ad2, rfl, hx2⟩ := C_int_at (Kd.C_below HSA.out XD.out.base) j hlj
       rw [List.getD_eq_getElem?_getD, List.getElem?_eq_getElem hlj, Option.getD_some] at hx2
       have HS2 := zh (heardOk_succ x.f1 j hlj)
       generalize hy : x.f1[j] = y at hx2 HS2
       clear hy
       cases ok2 with
       | true =>
        have HG := zh (in_f y (-2) 40)
        go_wp2_with (first | ((go_at_call 55; (with_reducible refine (kernel_in.calls y (-2) 40 _ _ HG.out).mono ?_)); rintro e w' ⟨rfl, hd⟩; have HB3 := zh (drawn_below hd); clear hd))
        go_roundw
        case rel => exact ⟨j + 1, _, by omega, by go_num, rfl, ⟨by rw [HS2.out, ← Bool.and_assoc, ← HO2.out, Bool.true_and]⟩, ⟨XD.out.below HB3.out⟩, ⟨blk_below D8.out HB3.out⟩, ⟨KD.out.trans (Kp.of_below HB3.out)⟩⟩
        case measure => simp [intOf]; omega
       | false =>
        go_wp2
        go_roundw
        case rel => exact ⟨j + 1, false, by omega, by go_num, rfl, ⟨by rw [HS2.out, ← Bool.and_assoc, ← HO2.out, Bool.false_and]⟩, XD, D8, KD⟩
        case measure => simp [intOf]; omega
      ·obtain rfl : j = x.f1.length := by omega
       go_wp2
       go_roundw
       case rel => exact ⟨k + 1, _, by omega, by go_num, rfl, ⟨by rw [HS.out, ← Bool.and_assoc, ← HO.out, Bool.true_and, HO2.out]; unfold okHeard1 heardOk; rw [List.take_length, decide_eq_true f0a, decide_eq_true f0b, beq_dec]; simp [Bool.and_assoc]⟩, XD, D8, KD⟩
       case measure => simp [intOf]; omega
    ·have hr' : (decide (0 ≤ x.f0) && decide (x.f0 < (R.length : Int))) = false := by simpa using hr
     have HG := zh (show kernel_in.f x.f0 0 ((R.length : Int) - 1) = some false by rw [in_le, hr'])
     go_wp2_with (first | ((go_at_call 55; (with_reducible refine (kernel_in.calls x.f0 0 ((R.length : Int) - 1) _ _ HG.out).mono ?_)); rintro e w2 ⟨rfl, hd⟩; have HB2 := zh (drawn_below hd); clear hd; have XC2 := zh ((XC.out.below (below_alloc (Below.refl wr.heap.size wr) (.cells #[.int .i64 x.f0, .slice A2 x.f1.length c2] 60))).below HB2.out); have C82 := zh (blk_below (blk_alloc C8.out (.cells #[.int .i64 x.f0, .slice A2 x.f1.length c2] 60)) HB2.out); have E82 := zh (blk_below (alloc_at wr (.cells #[.int .i64 x.f0, .slice A2 x.f1.length c2] 60) wr.heap.size rfl) HB2.out); have KP2 := zh ((KP.out.trans (Kp.of_below (below_alloc (Below.refl wr.heap.size wr) (.cells #[.int .i64 x.f0, .slice A2 x.f1.length c2] 60)))).trans (Kp.of_below HB2.out)); clear HB2))
     go_quiet (fail)
     have XC3 := zh (XC2.out.below (pw_below_drewN (Below.refl w2.heap.size w2) nq))
     have C83 := zh (blk_drewN C82.out nq)
     have E83 := zh (blk_drewN E82.out nq)
     have KP3 := zh (KP2.out.trans (Kp.of_below (pw_below_drewN (Below.refl w2.heap.size w2) nq)))
     have q5 := blk_cell E83.out 0
     have q6 := blk_cell E83.out 1
     go_wp2
     have HSA := zh hsa
     go_loopw [5, 51] (fun o u wr2 => ∃ (j : Nat) (ok2 : Bool), j ≤ x.f1.length ∧ u = .int .i64 j ∧ o = .bool ok2 ∧ Aside0 (ok2 = (false && heardOk x.f1 j)) ∧ Aside0 (Ctx w0 wr2 T A R m) ∧ Aside0 (wr2.heap[W.heap.size]? = some (.cells #[.int .i64 T, .int .i64 O, .int .i64 L, .slice A R.length c, .map (some m)] 78 (0, 0))) ∧ Aside0 (Kp m W wr2)) (fun _ u _ => x.f1.length - (intOf u).toNat)
     case atStart => exact ⟨0, _, Nat.zero_le _, rfl, rfl, ⟨by rw [heardOk_zero, Bool.and_true]⟩, XC3, C83, KP3⟩
     case round =>
      obtain ⟨j, ok2, hj, rfl, rfl, HO2, XD, D8, KD⟩ := hrel
      by_cases hlj : j < x.f1.length
      ·obtain ⟨ad2, rfl, hx2⟩ := C_int_at (Kd.C_below HSA.out XD.out.base) j hlj
       rw [List.getD_eq_getElem?_getD, List.getElem?_eq_getElem hlj, Option.getD_some] at hx2
       have HS2 := zh (heardOk_succ x.f1 j hlj)
       generalize hy : x.f1[j] = y at hx2 HS2
       clear hy
       cases ok2 with
       | true =>
        have HG := zh (in_f y (-2) 40)
        go_wp2_with (first | ((go_at_call 55; (with_reducible refine (kernel_in.calls y (-2) 40 _ _ HG.out).mono ?_)); rintro e w' ⟨rfl, hd⟩; have HB3 := zh (drawn_below hd); clear hd))
        go_roundw
        case rel => exact ⟨j + 1, _, by omega, by go_num, rfl, ⟨by rw [HS2.out, ← Bool.and_assoc, ← HO2.out, Bool.true_and]⟩, ⟨XD.out.below HB3.out⟩, ⟨blk_below D8.out HB3.out⟩, ⟨KD.out.trans (Kp.of_below HB3.out)⟩⟩
        case measure => simp [intOf]; omega
       | false =>
        go_wp2
        go_roundw
        case rel => exact ⟨j + 1, false, by omega, by go_num, rfl, ⟨by rw [HS2.out, ← Bool.and_assoc, ← HO2.out, Bool.false_and]⟩, XD, D8, KD⟩
        case measure => simp [intOf]; omega
      ·obtain rfl : j = x.f1.length := by omega
       go_wp2
       go_roundw
       case rel => exact ⟨k + 1, _, by omega, by go_num, rfl, ⟨by rw [HS.out, ← Bool.and_assoc, ← HO.out, Bool.true_and, HO2.out]; unfold okHeard1; rw [hr']; simp⟩, XD, D8, KD⟩
       case measure => simp [intOf]; omega
   | false =>
    have HB2 := zh (below_alloc (Below.refl wr.heap.size wr) (.cells #[.int .i64 x.f0, .slice A2 x.f1.length c2] 60))
    go_wp2
    go_quiet (fail)
    have HB3 := zh (pw_below_drewN HB2.out nq)
    have XC3 := zh (XC.out.below HB3.out)
    have C83 := zh (blk_below C8.out HB3.out)
    have E83 := zh (blk_drewN (alloc_at wr (.cells #[.int .i64 x.f0, .slice A2 x.f1.length c2] 60) wr.heap.size rfl) nq)
    have KP3 := zh (KP.out.trans (Kp.of_below HB3.out))
    have q5 := blk_cell E83.out 0
    have q6 := blk_cell E83.out 1
    go_wp2
    have HSA := zh hsa
    go_loopw [5, 51] (fun o u wr2 => ∃ (j : Nat) (ok2 : Bool), j ≤ x.f1.length ∧ u = .int .i64 j ∧ o = .bool ok2 ∧ Aside0 (ok2 = (false && heardOk x.f1 j)) ∧ Aside0 (Ctx w0 wr2 T A R m) ∧ Aside0 (wr2.heap[W.heap.size]? = some (.cells #[.int .i64 T, .int .i64 O, .int .i64 L, .slice A R.length c, .map (some m)] 78 (0, 0))) ∧ Aside0 (Kp m W wr2)) (fun _ u _ => x.f1.length - (intOf u).toNat)
    case atStart => exact ⟨0, _, Nat.zero_le _, rfl, rfl, ⟨by rw [heardOk_zero, Bool.and_true]⟩, XC3, C83, KP3⟩
    case round =>
     obtain ⟨j, ok2, hj, rfl, rfl, HO2, XD, D8, KD⟩ := hrel
     by_cases hlj : j < x.f1.length
     ·obtain ⟨ad2, rfl, hx2⟩ := C_int_at (Kd.C_below HSA.out XD.out.base) j hlj
      rw [List.getD_eq_getElem?_getD, List.getElem?_eq_getElem hlj, Option.getD_some] at hx2
      have HS2 := zh (heardOk_succ x.f1 j hlj)
      generalize hy : x.f1[j] = y at hx2 HS2
      clear hy
      cases ok2 with
      | true =>
       have HG := zh (in_f y (-2) 40)
       go_wp2_with (first | ((go_at_call 55; (with_reducible refine (kernel_in.calls y (-2) 40 _ _ HG.out).mono ?_)); rintro e w' ⟨rfl, hd⟩; have HB3 := zh (drawn_below hd); clear hd))
       go_roundw
       case rel => exact ⟨j + 1, _, by omega, by go_num, rfl, ⟨by rw [HS2.out, ← Bool.and_assoc, ← HO2.out, Bool.true_and]⟩, ⟨XD.out.below HB3.out⟩, ⟨blk_below D8.out HB3.out⟩, ⟨KD.out.trans (Kp.of_below HB3.out)⟩⟩
       case measure => simp [intOf]; omega
      | false =>
       go_wp2
       go_roundw
       case rel => exact ⟨j + 1, false, by omega, by go_num, rfl, ⟨by rw [HS2.out, ← Bool.and_assoc, ← HO2.out, Bool.false_and]⟩, XD, D8, KD⟩
       case measure => simp [intOf]; omega
     ·obtain rfl : j = x.f1.length := by omega
      go_wp2
      go_roundw
      case rel => exact ⟨k + 1, _, by omega, by go_num, rfl, ⟨by rw [HS.out, ← Bool.and_assoc, ← HO.out, Bool.false_and, HO2.out, Bool.false_and]⟩, XD, D8, KD⟩
      case measure => simp [intOf]; omega
  ·obtain rfl : k = hs.length := by omega
   go_wp2
   go_ret
   exact ⟨by rw [HO.out, okHeard_eq]; rfl, XC.out.memo, KP.out⟩
end Go.Proofs.YtagkfkdoibnhfaaDoor.K
end
section
namespace Go.Proofs.YtagkfkdoibnhfaaDoor.K
open Go.RowKit Go.Proofs.YtagkfkdoibnhfaaDoorW.PrintWords Go.Proofs.YtagkfkdoibnhfaaDoorW.PrintLast Go.Proofs.YtagkfkdoibnhfaaDoorW.PrintMore Go.Proofs.YtagkfkdoibnhfaaDoor.H
set_option linter.unusedVariables false
set_option linter.unusedSimpArgs false
set_option maxRecDepth 100000 in
set_option maxHeartbeats 4000000 in
theorem listened1_calls (T O L : Int) (A : Option Addr) (R : List S66) (c m b1 : Nat) (A1 : Option Addr) (c1 : Nat) (hs : List S60) (w0 W : World) (hx : Ctx w0 W T A R m) (hl : Kd.C k60 w0 A1 hs.length hs) (h1 : W.heap[b1]? = some (.cells #[.slice A1 hs.length c1] 33 (0, 0))) (hL : 2 ≤ L) (hL' : L ≤ 16) (hn : R.length ≤ 5) :
  Calls Tryd.prog 82 #[.agg #[.int .i64 T, .int .i64 O, .int .i64 L, .slice A R.length c, .map (some m)], .pointer (some ⟨b1, 0, none⟩)] W
   fun e W' => e = .returned (.bool (okHeard L R hs)) ∧ Memo T R W' m ∧ Kp m W W' := by
 have hu78 := Tryd.underlying78
 have q1 : W.cell? ⟨b1, 0, none⟩ = some (.slice A1 hs.length c1) := (blk_cell h1 0).trans rfl
 replace q1 := cell_a1 q1 (.cells #[.int .i64 T, .int .i64 O, .int .i64 L, .slice A R.length c, .map (some m)] 78)
 have HB0 := zh (below_alloc (Below.refl W.heap.size W) (.cells #[.int .i64 T, .int .i64 O, .int .i64 L, .slice A R.length c, .map (some m)] 78))
 have X0 := zh (hx.below HB0.out)
 have HL := zh hl
 clear hl hx h1
 go_enter Tryd.func82, Tryd.ntmps82
 go_wp2_with (first | (go_at_call 83; (with_reducible refine (isHeard_calls T O L A R c m A1 c1 hs w0 _ X0.out HL.out hL hL' hn).mono ?_); rintro e w1 ⟨rfl, hm, hk⟩; have HM := zh hm; have HK := zh ((Kp.of_below (m := m) HB0.out).trans hk); clear hm hk))
 go_ret
 exact ⟨rfl, HM.out, HK.out⟩
def ListenedPost (T O L : Int) (A : Option Addr) (R : List S66) (c : Nat) (A1 : Option Addr) (n c1 : Nat) (b : Bool) (w : World) (e : Ending) (w' : World) : Prop :=
 (okScale T O L R = false → e = .returned (.tuple #[.agg #[.int .i64 0, .int .i64 0, .int .i64 0, .slice none 0 0, .map none, .slice A1 n c1], .int .i64 60]) ∧ Below w.heap.size w w') ∧
 (okScale T O L R = true → b = false → e = .returned (.tuple #[.agg #[.int .i64 0, .int .i64 0, .int .i64 0, .slice none 0 0, .map none, .slice A1 n c1], .int .i64 61]) ∧ Below w.heap.size w w') ∧
 (okScale T O L R = true → b = true → ∃ m, e = .returned (.tuple #[.agg #[.int .i64 T, .int .i64 O, .int .i64 L, .slice A R.length c, .map (some m), .slice A1 n c1], .int .i64 0]) ∧ Ctx w w' T A R m)
theorem cell_alloc_old {W : World} {b i : Nat} {o : Obj} (h : b < W.heap.size) : (W.alloc o).cell? ⟨b, i, none⟩ = W.cell? ⟨b, i, none⟩ := (below_alloc (Below.refl W.heap.size W) o).cell (p := ⟨b, i, none⟩) h
theorem frozen_alloc_old {W : World} {b i : Nat} {o : Obj} (h : b < W.heap.size) : (W.alloc o).frozen? ⟨b, i, none⟩ = W.frozen? ⟨b, i, none⟩ := by
 unfold World.frozen?
 rw [show (W.alloc o).heap[b]? = W.heap[b]? from (below_alloc (Below.refl W.heap.size W) o).block b h]
theorem Memo.move_set {T : Int} {R : List S66} {w : World} {m g j : Nat} {v : Value} (h : Memo T R w m) (hne : m ≠ g) : Memo T R (w.setCell ⟨g, j, none⟩ v) m := Memo.move h (Below.heap_setCell _ _ _ _ hne)
theorem Ctx.of_below {w W W' : World} {T : Int} {A : Option Addr} {R : List S66} {m : Nat} (h : Ctx w W T A R m) (hb : Below w.heap.size w W') (hM : Memo T R W' m) : Ctx w W' T A R m :=
 { h with base := hb, memo := hM }
set_option maxRecDepth 100000 in
set_option maxHeartbeats 4000000 in
theorem listened_bad60 (T O L : Int) (A : Option Addr) (R : List S66) (c : Nat) (A1 : Option Addr) (c1 : Nat) (hs : List S60) (w : World) (hR : Kd.C k66 w A R.length R) (hc : R.length ≤ c) (hl : Kd.C k60 w A1 hs.length hs) (hG : Glob w) (hb : okScale T O L R = false) :
  Calls Tryd.prog 62 #[.agg #[.int .i64 T, .int .i64 O, .int .i64 L, .slice A R.length c], .slice A1 hs.length c1] w (ListenedPost T O L A R c A1 hs.length c1 (okHeard L R hs) w) := by
 have hu24 := Tryd.underlying24
 have hu78 := Tryd.underlying78
 have hu92 := Tryd.underlying92
 have HB0 := zh (below_alloc (below_alloc (below_alloc (Below.refl w.heap.size w) (.cells #[.int .i64 T, .int .i64 O, .int .i64 L, .slice A R.length c] 24)) (.cells #[.slice A1 hs.length c1] 33)) (.cells #[.int .i64 0, .int .i64 0, .int .i64 0, .slice none 0 0, .map none, .slice none 0 0] 92))
 have HR := zh (Kd.C_below hR HB0.out)
 have HL := zh (Kd.C_below hl HB0.out)
 have HG := zh (hG.below HB0.out)
 have HR0 := zh hR
 have HG0 := zh hG
 have HCL := zh (show okScale T O L R = true → ∀ (W : World) (m : Nat), Ctx (((w.alloc (.cells #[.int .i64 T, .int .i64 O, .int .i64 L, .slice A R.length c] 24)).alloc (.cells #[.slice A1 hs.length c1] 33)).alloc (.cells #[.int .i64 0, .int .i64 0, .int .i64 0, .slice none 0 0, .map none, .slice none 0 0] 92)) W T A R m →
   Calls Tryd.prog 82 #[.agg #[.int .i64 T, .int .i64 O, .int .i64 L, .slice A R.length c, .map (some m)], .pointer (some ⟨w.heap.size + 1, 0, none⟩)] W fun e W' => e = .returned (.bool (okHeard L R hs)) ∧ Memo T R W' m ∧ Kp m W W' from fun hok W m hx => by
  obtain ⟨_, _, _, _, t5, t6, _, _, t9, _⟩ := okScale_regs hok
  exact listened1_calls T O L A R c m (w.heap.size + 1) A1 c1 hs _ W hx HL.out ((hx.base.block _ (by simp)).trans (blk_alloc (alloc_at _ _ _ (by simp)) _)) t5 t6 (by omega))
 have HH := zh (show okScale T O L R = false ∧ (60 : Int) = 60 ∨ okScale T O L R = true ∧ okHeard L R hs = false ∧ (60 : Int) = 61 from .inl ⟨hb, rfl⟩)
 clear hR hl hG hb
 go_enter Tryd.func62, Tryd.ntmps62
 go_wp2_with (first | (go_at_call 53; (with_reducible refine (opened_listened T O L A R c _ (okHeard L R hs) _ HR.out hc HG.out HCL.out).mono ?_); rintro e w1 hp; obtain ⟨rfl, hb1⟩ := hp.bad (HH.out); have HB1 := zh hb1; have HBW := zh (HB0.out.trans (hb1.mono (by simp; omega))); clear hp hb1; have b1 := zh ((HB1.out.block (w.heap.size + 1) (by simp)).trans (blk_alloc (alloc_at _ _ _ (by simp)) _)); have b2 := zh ((HB1.out.block (w.heap.size + 1 + 1) (by simp)).trans (alloc_at _ _ _ (by simp))); have q1 : w1.cell? ⟨w.heap.size + 1, 0, none⟩ = some (.slice A1 hs.length c1) := vb b1 0; replace q1 := cell_a1 q1 (.cells #[.int .i64 0, .int .i64 0, .int .i64 0, .slice none 0 0, .map none] 78); have q2 := blk_lt b2.out; have x0 := blk_frozen b2.out 0; have x1 := blk_frozen b2.out 1; have x2 := blk_frozen b2.out 2; have x3 := blk_frozen b2.out 3; have x4 := blk_frozen b2.out 4; have x5 := blk_frozen b2.out 5; have y0 := blk_cell b2.out 0; have y1 := blk_cell b2.out 1; have y2 := blk_cell b2.out 2; have y3 := blk_cell b2.out 3; have y4 := blk_cell b2.out 4; have y5 := blk_cell b2.out 5))
 refine bodyPost_ret (v := .tuple #[.agg #[.int .i64 0, .int .i64 0, .int .i64 0, .slice none 0 0, .map none, .slice A1 hs.length c1], .int .i64 60]) dQ11 rfl ?_
 have hb3 : Below w.heap.size w (((((((w1.setCell ⟨w.heap.size + 1 + 1, 0, none⟩ (.int .i64 0)).setCell ⟨w.heap.size + 1 + 1, 1, none⟩ (.int .i64 0)).setCell ⟨w.heap.size + 1 + 1, 2, none⟩ (.int .i64 0)).setCell ⟨w.heap.size + 1 + 1, 3, none⟩ (.slice none 0 0)).setCell ⟨w.heap.size + 1 + 1, 4, none⟩ (.map none)).setCell ⟨w.heap.size + 1 + 1, 5, none⟩ (.slice A1 hs.length c1)).alloc (.cells #[.int .i64 0, .int .i64 0, .int .i64 0, .slice none 0 0, .map none] 78)) := by repeat (first | (with_reducible exact HBW.out) | (with_reducible refine below_alloc ?_ _) | refine below_set ?_ (by show w.heap.size ≤ w.heap.size + 1 + 1; omega))
 exact ⟨fun _ => ⟨rfl, hb3⟩, fun h => absurd h (by rcases HH.out with ⟨h, _⟩ | ⟨_, _, h⟩ <;> simp_all), fun h => absurd h (by rcases HH.out with ⟨h, _⟩ | ⟨_, _, h⟩ <;> simp_all)⟩
set_option maxRecDepth 100000 in
set_option maxHeartbeats 4000000 in
theorem listened_bad61 (T O L : Int) (A : Option Addr) (R : List S66) (c : Nat) (A1 : Option Addr) (c1 : Nat) (hs : List S60) (w : World) (hR : Kd.C k66 w A R.length R) (hc : R.length ≤ c) (hl : Kd.C k60 w A1 hs.length hs) (hG : Glob w) (hb : okScale T O L R = true) (hb' : okHeard L R hs = false) :
  Calls Tryd.prog 62 #[.agg #[.int .i64 T, .int .i64 O, .int .i64 L, .slice A R.length c], .slice A1 hs.length c1] w (ListenedPost T O L A R c A1 hs.length c1 (okHeard L R hs) w) := by
 have hu24 := Tryd.underlying24
 have hu78 := Tryd.underlying78
 have hu92 := Tryd.underlying92
 have HB0 := zh (below_alloc (below_alloc (below_alloc (Below.refl w.heap.size w) (.cells #[.int .i64 T, .int .i64 O, .int .i64 L, .slice A R.length c] 24)) (.cells #[.slice A1 hs.length c1] 33)) (.cells #[.int .i64 0, .int .i64 0, .int .i64 0, .slice none 0 0, .map none, .slice none 0 0] 92))
 have HR := zh (Kd.C_below hR HB0.out)
 have HL := zh (Kd.C_below hl HB0.out)
 have HG := zh (hG.below HB0.out)
 have HR0 := zh hR
 have HG0 := zh hG
 have HCL := zh (show okScale T O L R = true → ∀ (W : World) (m : Nat), Ctx (((w.alloc (.cells #[.int .i64 T, .int .i64 O, .int .i64 L, .slice A R.length c] 24)).alloc (.cells #[.slice A1 hs.length c1] 33)).alloc (.cells #[.int .i64 0, .int .i64 0, .int .i64 0, .slice none 0 0, .map none, .slice none 0 0] 92)) W T A R m →
   Calls Tryd.prog 82 #[.agg #[.int .i64 T, .int .i64 O, .int .i64 L, .slice A R.length c, .map (some m)], .pointer (some ⟨w.heap.size + 1, 0, none⟩)] W fun e W' => e = .returned (.bool (okHeard L R hs)) ∧ Memo T R W' m ∧ Kp m W W' from fun hok W m hx => by
  obtain ⟨_, _, _, _, t5, t6, _, _, t9, _⟩ := okScale_regs hok
  exact listened1_calls T O L A R c m (w.heap.size + 1) A1 c1 hs _ W hx HL.out ((hx.base.block _ (by simp)).trans (blk_alloc (alloc_at _ _ _ (by simp)) _)) t5 t6 (by omega))
 have HH := zh (show okScale T O L R = false ∧ (61 : Int) = 60 ∨ okScale T O L R = true ∧ okHeard L R hs = false ∧ (61 : Int) = 61 from .inr ⟨hb, hb', rfl⟩)
 clear hR hl hG hb hb'
 go_enter Tryd.func62, Tryd.ntmps62
 go_wp2_with (first | (go_at_call 53; (with_reducible refine (opened_listened T O L A R c _ (okHeard L R hs) _ HR.out hc HG.out HCL.out).mono ?_); rintro e w1 hp; obtain ⟨rfl, hb1⟩ := hp.bad (HH.out); have HB1 := zh hb1; have HBW := zh (HB0.out.trans (hb1.mono (by simp; omega))); clear hp hb1; have b1 := zh ((HB1.out.block (w.heap.size + 1) (by simp)).trans (blk_alloc (alloc_at _ _ _ (by simp)) _)); have b2 := zh ((HB1.out.block (w.heap.size + 1 + 1) (by simp)).trans (alloc_at _ _ _ (by simp))); have q1 : w1.cell? ⟨w.heap.size + 1, 0, none⟩ = some (.slice A1 hs.length c1) := vb b1 0; replace q1 := cell_a1 q1 (.cells #[.int .i64 0, .int .i64 0, .int .i64 0, .slice none 0 0, .map none] 78); have q2 := blk_lt b2.out; have x0 := blk_frozen b2.out 0; have x1 := blk_frozen b2.out 1; have x2 := blk_frozen b2.out 2; have x3 := blk_frozen b2.out 3; have x4 := blk_frozen b2.out 4; have x5 := blk_frozen b2.out 5; have y0 := blk_cell b2.out 0; have y1 := blk_cell b2.out 1; have y2 := blk_cell b2.out 2; have y3 := blk_cell b2.out 3; have y4 := blk_cell b2.out 4; have y5 := blk_cell b2.out 5))
 refine bodyPost_ret (v := .tuple #[.agg #[.int .i64 0, .int .i64 0, .int .i64 0, .slice none 0 0, .map none, .slice A1 hs.length c1], .int .i64 61]) dQ11 rfl ?_
 have hb3 : Below w.heap.size w (((((((w1.setCell ⟨w.heap.size + 1 + 1, 0, none⟩ (.int .i64 0)).setCell ⟨w.heap.size + 1 + 1, 1, none⟩ (.int .i64 0)).setCell ⟨w.heap.size + 1 + 1, 2, none⟩ (.int .i64 0)).setCell ⟨w.heap.size + 1 + 1, 3, none⟩ (.slice none 0 0)).setCell ⟨w.heap.size + 1 + 1, 4, none⟩ (.map none)).setCell ⟨w.heap.size + 1 + 1, 5, none⟩ (.slice A1 hs.length c1)).alloc (.cells #[.int .i64 0, .int .i64 0, .int .i64 0, .slice none 0 0, .map none] 78)) := by repeat (first | (with_reducible exact HBW.out) | (with_reducible refine below_alloc ?_ _) | refine below_set ?_ (by show w.heap.size ≤ w.heap.size + 1 + 1; omega))
 exact ⟨fun h => absurd h (by rcases HH.out with ⟨_, h⟩ | ⟨h, _⟩ <;> simp_all), fun _ _ => ⟨rfl, hb3⟩, fun _ h => absurd h (by rcases HH.out with ⟨_, h⟩ | ⟨_, h, _⟩ <;> simp_all)⟩
set_option maxRecDepth 100000 in
set_option maxHeartbeats 4000000 in
theorem listened_good (T O L : Int) (A : Option Addr) (R : List S66) (c : Nat) (A1 : Option Addr) (c1 : Nat) (hs : List S60) (w : World) (hR : Kd.C k66 w A R.length R) (hc : R.length ≤ c) (hl : Kd.C k60 w A1 hs.length hs) (hG : Glob w) (hb : okScale T O L R = true) (hb' : okHeard L R hs = true) :
  Calls Tryd.prog 62 #[.agg #[.int .i64 T, .int .i64 O, .int .i64 L, .slice A R.length c], .slice A1 hs.length c1] w (ListenedPost T O L A R c A1 hs.length c1 (okHeard L R hs) w) := by
 have hu24 := Tryd.underlying24
 have hu78 := Tryd.underlying78
 have hu92 := Tryd.underlying92
 have HB0 := zh (below_alloc (below_alloc (below_alloc (Below.refl w.heap.size w) (.cells #[.int .i64 T, .int .i64 O, .int .i64 L, .slice A R.length c] 24)) (.cells #[.slice A1 hs.length c1] 33)) (.cells #[.int .i64 0, .int .i64 0, .int .i64 0, .slice none 0 0, .map none, .slice none 0 0] 92))
 have HR := zh (Kd.C_below hR HB0.out)
 have HL := zh (Kd.C_below hl HB0.out)
 have HG := zh (hG.below HB0.out)
 have HR0 := zh hR
 have HG0 := zh hG
 have HCL := zh (show okScale T O L R = true → ∀ (W : World) (m : Nat), Ctx (((w.alloc (.cells #[.int .i64 T, .int .i64 O, .int .i64 L, .slice A R.length c] 24)).alloc (.cells #[.slice A1 hs.length c1] 33)).alloc (.cells #[.int .i64 0, .int .i64 0, .int .i64 0, .slice none 0 0, .map none, .slice none 0 0] 92)) W T A R m →
   Calls Tryd.prog 82 #[.agg #[.int .i64 T, .int .i64 O, .int .i64 L, .slice A R.length c, .map (some m)], .pointer (some ⟨w.heap.size + 1, 0, none⟩)] W fun e W' => e = .returned (.bool (okHeard L R hs)) ∧ Memo T R W' m ∧ Kp m W W' from fun hok W m hx => by
  obtain ⟨_, _, _, _, t5, t6, _, _, t9, _⟩ := okScale_regs hok
  exact listened1_calls T O L A R c m (w.heap.size + 1) A1 c1 hs _ W hx HL.out ((hx.base.block _ (by simp)).trans (blk_alloc (alloc_at _ _ _ (by simp)) _)) t5 t6 (by omega))
 have HH := zh (show okScale T O L R = true ∧ okHeard L R hs = true from ⟨hb, hb'⟩)
 clear hR hl hG hb hb'
 go_enter Tryd.func62, Tryd.ntmps62
 go_wp2_with (first | (go_at_call 53; (with_reducible refine (opened_listened T O L A R c _ (okHeard L R hs) _ HR.out hc HG.out HCL.out).mono ?_); rintro e w1 hp; obtain ⟨m, rfl, hx⟩ := hp.good HH.out.1 HH.out.2; have HB1 := zh hx.base; have HX := zh (hx.elder HB0.out HR0.out HG0.out); have HBW := zh HX.out.base; clear hp hx; have b1 := zh ((HB1.out.block (w.heap.size + 1) (by simp)).trans (blk_alloc (alloc_at _ _ _ (by simp)) _)); have b2 := zh ((HB1.out.block (w.heap.size + 1 + 1) (by simp)).trans (alloc_at _ _ _ (by simp))); have q1 : w1.cell? ⟨w.heap.size + 1, 0, none⟩ = some (.slice A1 hs.length c1) := vb b1 0; replace q1 := cell_a1 q1 (.cells #[.int .i64 T, .int .i64 O, .int .i64 L, .slice A R.length c, .map (some m)] 78); have q2 := blk_lt b2.out; have x0 := blk_frozen b2.out 0; have x1 := blk_frozen b2.out 1; have x2 := blk_frozen b2.out 2; have x3 := blk_frozen b2.out 3; have x4 := blk_frozen b2.out 4; have x5 := blk_frozen b2.out 5; have y0 := blk_cell b2.out 0; have y1 := blk_cell b2.out 1; have y2 := blk_cell b2.out 2; have y3 := blk_cell b2.out 3; have y4 := blk_cell b2.out 4; have y5 := blk_cell b2.out 5))
 refine bodyPost_ret (v := .tuple #[.agg #[.int .i64 T, .int .i64 O, .int .i64 L, .slice A R.length c, .map (some m), .slice A1 hs.length c1], .int .i64 0]) dQ11 rfl ?_
 have hb3 : Below w.heap.size w (((((((w1.setCell ⟨w.heap.size + 1 + 1, 0, none⟩ (.int .i64 T)).setCell ⟨w.heap.size + 1 + 1, 1, none⟩ (.int .i64 O)).setCell ⟨w.heap.size + 1 + 1, 2, none⟩ (.int .i64 L)).setCell ⟨w.heap.size + 1 + 1, 3, none⟩ (.slice A R.length c)).setCell ⟨w.heap.size + 1 + 1, 4, none⟩ (.map (some m))).setCell ⟨w.heap.size + 1 + 1, 5, none⟩ (.slice A1 hs.length c1)).alloc (.cells #[.int .i64 T, .int .i64 O, .int .i64 L, .slice A R.length c, .map (some m)] 78)) := by repeat (first | (with_reducible exact HBW.out) | (with_reducible refine below_alloc ?_ _) | refine below_set ?_ (by show w.heap.size ≤ w.heap.size + 1 + 1; omega))
 have hmlt := HX.out.memo.lt
 have hne : m ≠ w.heap.size + 1 + 1 := by rintro rfl; exact HX.out.memo.no_cells b2.out
 have hm3 : Memo T R (((((((w1.setCell ⟨w.heap.size + 1 + 1, 0, none⟩ (.int .i64 T)).setCell ⟨w.heap.size + 1 + 1, 1, none⟩ (.int .i64 O)).setCell ⟨w.heap.size + 1 + 1, 2, none⟩ (.int .i64 L)).setCell ⟨w.heap.size + 1 + 1, 3, none⟩ (.slice A R.length c)).setCell ⟨w.heap.size + 1 + 1, 4, none⟩ (.map (some m))).setCell ⟨w.heap.size + 1 + 1, 5, none⟩ (.slice A1 hs.length c1)).alloc (.cells #[.int .i64 T, .int .i64 O, .int .i64 L, .slice A R.length c, .map (some m)] 78)) m := by repeat (first | (with_reducible exact HX.out.memo) | (with_reducible refine Memo.alloc ?_ _) | refine Memo.move_set ?_ hne)
 exact ⟨fun h => absurd h (by rw [HH.out.1]; simp), fun _ h => absurd h (by rw [HH.out.2]; simp), fun _ _ => ⟨m, rfl, HX.out.of_below hb3 hm3⟩⟩
theorem listened_calls (T O L : Int) (A : Option Addr) (R : List S66) (c : Nat) (A1 : Option Addr) (c1 : Nat) (hs : List S60) (w : World) (hR : Kd.C k66 w A R.length R) (hc : R.length ≤ c) (hl : Kd.C k60 w A1 hs.length hs) (hG : Glob w) :
  Calls Tryd.prog 62 #[.agg #[.int .i64 T, .int .i64 O, .int .i64 L, .slice A R.length c], .slice A1 hs.length c1] w (ListenedPost T O L A R c A1 hs.length c1 (okHeard L R hs) w) := by
 cases h1 : okScale T O L R with
 | false => exact listened_bad60 T O L A R c A1 c1 hs w hR hc hl hG h1
 | true =>
  cases h2 : okHeard L R hs with
  | false => rw [← h2]; exact listened_bad61 T O L A R c A1 c1 hs w hR hc hl hG h1 h2
  | true => rw [← h2]; exact listened_good T O L A R c A1 c1 hs w hR hc hl hG h1 h2
set_option maxRecDepth 100000 in
theorem otherwise1_calls (a b : Int) (w : World) :
  Calls Tryd.prog 87 #[.int .i64 a, .int .i64 b] w fun e w' => e = .returned (.bool (decide (a ≠ -2) && decide (a ≠ b))) ∧ Drawn0 w w' := by
 by_cases h : a = -2
 ·subst h
  go_enter Tryd.func87, Tryd.ntmps87
  go_wp2
  go_ret
  exact ⟨by first | rfl | (simp; done), by repeat (first | exact Drawn0.refl _ | apply Drawn0.step)⟩
 ·have h' : (a != -2) = true := bne_iff_ne.2 h
  have h'' : (a == -2) = false := beq_eq_false_iff_ne.2 h
  go_enter Tryd.func87, Tryd.ntmps87
  go_wp2
  go_ret
  exact ⟨by first | rfl | (simp [h]; done) | (simp [h, bne]; rw [beq_dec]; done), by repeat (first | exact Drawn0.refl _ | apply Drawn0.step)⟩
set_option maxRecDepth 100000 in
theorem otherwise_calls (w : World) :
  Calls Tryd.prog 74 #[] w fun e w' => e = .returned (.agg #[.func (.func 87) #[] #[]]) ∧ Below w.heap.size w w' := by
 have hu110 := Tryd.underlying110
 have hst := fun (W : World) (a : Addr) (m : Mode) => run_store Tryd.prog W a (.func (.func 87) #[] #[]) m rfl
 go_enter Tryd.func74, Tryd.ntmps74
 go_wp2
 refine bodyPost_ret (v := .agg #[.func (.func 87) #[] #[]]) (by simp [results, Tryd.results74, go_sem, hu110]) rfl ?_
 exact ⟨rfl, by repeat (first | (with_reducible exact Below.refl _ _) | (with_reducible apply below_alloc) | refine below_set ?_ (Nat.le_refl _))⟩
end Go.Proofs.YtagkfkdoibnhfaaDoor.K
end
section
namespace Go.Proofs.YtagkfkdoibnhfaaDoor.K
open Go.RowKit Go.Proofs.YtagkfkdoibnhfaaDoorW.PrintWords Go.Proofs.YtagkfkdoibnhfaaDoorW.PrintLast Go.Proofs.YtagkfkdoibnhfaaDoorW.PrintMore Go.Proofs.YtagkfkdoibnhfaaDoor.H
set_option linter.unusedVariables false
set_option linter.unusedSimpArgs false
def missTo (was l : List Int) (n : Nat) : Nat := (List.range n).countP fun k => decide (was.getD k 0 ≠ -2) && decide (was.getD k 0 ≠ l.getD k 0)
theorem missTo_succ (was l : List Int) (n : Nat) : missTo was l (n + 1) = missTo was l n + (if (decide (was.getD n 0 ≠ -2) && decide (was.getD n 0 ≠ l.getD n 0)) = true then 1 else 0) := by
 unfold missTo
 rw [List.range_succ, List.countP_append, List.countP_singleton]
theorem missTo_all (was l : List Int) : missTo was l l.length = missOf was l := rfl
theorem missTo_le (was l : List Int) (n : Nat) : missTo was l n ≤ n := by
 unfold missTo
 exact Nat.le_trans List.countP_le_length (by simp)
def missEntry (T : Int) (R : List S66) (p : Nat) (a b : Int) (h : S60) : Nat := missOf (h.f1.drop (p * width (regAt R h.f0))) (strokes T R h.f0 a b)
def missUpto (T : Int) (R : List S66) (hs : List S60) (p : Nat) (a b : Int) (k : Nat) : Nat := ((hs.take k).map (missEntry T R p a b)).sum
theorem missUpto_succ (T : Int) (R : List S66) (hs : List S60) (p : Nat) (a b : Int) (k : Nat) (h : k < hs.length) : missUpto T R hs p a b (k + 1) = missUpto T R hs p a b k + missEntry T R p a b hs[k] := by
 unfold missUpto
 rw [List.take_succ_eq_append_getElem h, List.map_append, List.sum_append_nat]
 simp
theorem missUpto_all (T : Int) (R : List S66) (hs : List S60) (p : Nat) (a b : Int) : missUpto T R hs p a b hs.length = miss T R hs (p : Int) a b := by
 unfold missUpto miss missEntry
 rw [List.take_length]
 rfl
theorem missEntry_le (T : Int) (R : List S66) (p : Nat) (a b : Int) (h : S60) : missEntry T R p a b h ≤ 4 := Nat.le_trans (missTo_le _ _ _) (strokes_len T R h.f0 a b)
theorem missUpto_le (T : Int) (R : List S66) (hs : List S60) (p : Nat) (a b : Int) : ∀ k, k ≤ hs.length → missUpto T R hs p a b k ≤ 4 * k
 | 0, _ => by simp [missUpto]
 | k + 1, h => by
  have ih := missUpto_le T R hs p a b k (by omega)
  have e := missEntry_le T R p a b (hs[k]'(by omega))
  rw [missUpto_succ _ _ _ _ _ _ _ (by omega)]
  omega
theorem okHeard_get {L : Int} {R : List S66} {hs : List S60} (h : okHeard L R hs = true) : hs.length ≤ 5 ∧ ∀ (k : Nat) (hk : k < hs.length), 0 ≤ hs[k].f0 ∧ hs[k].f0 < R.length ∧ (hs[k].f1.length : Int) = L / 2 * (width (regAt R hs[k].f0) : Int) ∧ ∀ n ∈ hs[k].f1, -2 ≤ n ∧ n ≤ 40 := by
 unfold okHeard at h
 simp only [Bool.and_eq_true, decide_eq_true_eq, List.all_eq_true] at h
 obtain ⟨⟨h1, h2⟩, h3⟩ := h
 refine ⟨h2, fun k hk => ?_⟩
 have hx := h3 _ (List.getElem_mem hk)
 unfold okHeard1 at hx
 simp only [Bool.and_eq_true, decide_eq_true_eq, List.all_eq_true] at hx
 exact ⟨hx.1.1.1, hx.1.1.2, hx.1.2, hx.2⟩
set_option maxRecDepth 100000 in
set_option maxHeartbeats 8000000 in
theorem counted_calls (T O L : Int) (A : Option Addr) (R : List S66) (c m : Nat) (A1 : Option Addr) (c1 : Nat) (hs : List S60) (p : Nat) (a b : Int) (w0 W : World) (hx : Ctx w0 W T A R m) (hl : Kd.C k60 w0 A1 hs.length hs) (hh : okHeard L R hs = true) (hL : 2 ≤ L) (hL' : L ≤ 16) (hp : (p : Int) < L / 2)
  (ha : 0 ≤ a) (ha' : a ≤ 100) (hb : 0 ≤ b) (hb' : b ≤ 100) :
  Calls Tryd.prog 73 #[.agg #[.int .i64 T, .int .i64 O, .int .i64 L, .slice A R.length c, .map (some m), .slice A1 hs.length c1], .int .i64 (p : Int), .agg #[.int .i64 a, .int .i64 b], .agg #[.func (.func 87) #[] #[]]] W
   fun e W' => e = .returned (.int .i64 (miss T R hs (p : Int) a b : Int)) ∧ Memo T R W' m ∧ Kp m W W' := by
 have hu24 := Tryd.underlying24
 have hu60 := Tryd.underlying60
 have hu78 := Tryd.underlying78
 have hu84 := Tryd.underlying84
 have hu92 := Tryd.underlying92
 have hu110 := Tryd.underlying110
 have hls : hs.length ≤ 9223372036854775807 := hl.2.1
 obtain ⟨h5, hent⟩ := okHeard_get hh
 have HE := zh hent
 have HL := zh hl
 have HB0 := zh (below_alloc (below_alloc (below_alloc (Below.refl W.heap.size W) (.cells #[.int .i64 T, .int .i64 O, .int .i64 L, .slice A R.length c, .map (some m), .slice A1 hs.length c1] 92)) (.cells #[.int .i64 a, .int .i64 b] 84)) (.cells #[.func (.func 87) #[] #[]] 110))
 have X0 := zh (hx.below HB0.out)
 have B0 := zh (blk_alloc (blk_alloc (alloc_at W (.cells #[.int .i64 T, .int .i64 O, .int .i64 L, .slice A R.length c, .map (some m), .slice A1 hs.length c1] 92) W.heap.size rfl) (.cells #[.int .i64 a, .int .i64 b] 84)) (.cells #[.func (.func 87) #[] #[]] 110))
 have B1 := zh (blk_alloc (alloc_at (W.alloc (.cells #[.int .i64 T, .int .i64 O, .int .i64 L, .slice A R.length c, .map (some m), .slice A1 hs.length c1] 92)) (.cells #[.int .i64 a, .int .i64 b] 84) (W.heap.size + 1) (by simp)) (.cells #[.func (.func 87) #[] #[]] 110))
 have B2 := zh (alloc_at ((W.alloc (.cells #[.int .i64 T, .int .i64 O, .int .i64 L, .slice A R.length c, .map (some m), .slice A1 hs.length c1] 92)).alloc (.cells #[.int .i64 a, .int .i64 b] 84)) (.cells #[.func (.func 87) #[] #[]] 110) (W.heap.size + 1 + 1) (by simp))
 clear hl hx hh hent
 go_enter Tryd.func73, Tryd.ntmps73
 go_wp2
 go_loopw [9, 18] (fun o u wr => ∃ k : Nat, k ≤ hs.length ∧ u = .int .i64 k ∧ o = .int .i64 (missUpto T R hs p a b k : Int) ∧ Aside0 (Ctx w0 wr T A R m) ∧ Aside0 (wr.heap[W.heap.size]? = some (.cells #[.int .i64 T, .int .i64 O, .int .i64 L, .slice A R.length c, .map (some m), .slice A1 hs.length c1] 92)) ∧ Aside0 (wr.heap[W.heap.size + 1]? = some (.cells #[.int .i64 a, .int .i64 b] 84)) ∧ Aside0 (wr.heap[W.heap.size + 1 + 1]? = some (.cells #[.func (.func 87) #[] #[]] 110)) ∧ Aside0 (Kp m W wr)) (fun _ u _ => hs.length - (intOf u).toNat)
 case atStart => exact ⟨0, Nat.zero_le _, rfl, rfl, X0, B0, B1, B2, ⟨Kp.of_below HB0.out⟩⟩
 case round =>
  obtain ⟨k, hk, rfl, rfl, XC, C0, C1, C2, KP⟩ := hrel
  by_cases hlt : k < hs.length
  ·obtain ⟨ad, A2, c2, rfl, y0, y1, hc2, hsa⟩ := C_60_at HL.out k hlt
   replace y0 := (XC.out.base.cell (World.block_lt_of_cell? w0 _ y0)).trans y0
   replace y1 := (XC.out.base.cell (World.block_lt_of_cell? w0 _ y1)).trans y1
   have HS := zh (missUpto_succ T R hs p a b k hlt)
   obtain ⟨f0a, f0b, f1l, f1r⟩ := HE.out k hlt
   have hmu := missUpto_le T R hs p a b k hk
   generalize hs[k] = x at y0 y1 hc2 hsa HS f0a f0b f1l f1r
   clear f1r
   have HSA := zh hsa
   have HF1 := zh f1l
   have hxl : x.f1.length ≤ 9223372036854775807 := hsa.2.1
   clear hsa f1l
   have XC1 := zh (XC.out.below (below_alloc (Below.refl wr.heap.size wr) (.cells #[.int .i64 x.f0, .slice A2 x.f1.length c2] 60)))
   have C01 := zh (blk_alloc C0.out (.cells #[.int .i64 x.f0, .slice A2 x.f1.length c2] 60))
   have C11 := zh (blk_alloc C1.out (.cells #[.int .i64 x.f0, .slice A2 x.f1.length c2] 60))
   have C21 := zh (blk_alloc C2.out (.cells #[.int .i64 x.f0, .slice A2 x.f1.length c2] 60))
   have E1 := zh (alloc_at wr (.cells #[.int .i64 x.f0, .slice A2 x.f1.length c2] 60) wr.heap.size rfl)
   have KP1 := zh (KP.out.trans (Kp.of_below (below_alloc (Below.refl wr.heap.size wr) (.cells #[.int .i64 x.f0, .slice A2 x.f1.length c2] 60))))
   have z5 : wr.cell? ⟨W.heap.size, 5, none⟩ = some (.slice (some ad) hs.length c1) := vb C0 5
   have z0 : wr.cell? ⟨W.heap.size, 0, none⟩ = some (.int .i64 T) := vb C0 0
   have z1 : wr.cell? ⟨W.heap.size, 1, none⟩ = some (.int .i64 O) := vb C0 1
   have z2 : wr.cell? ⟨W.heap.size, 2, none⟩ = some (.int .i64 L) := vb C0 2
   have z3 : wr.cell? ⟨W.heap.size, 3, none⟩ = some (.slice A R.length c) := vb C0 3
   have z4 : wr.cell? ⟨W.heap.size, 4, none⟩ = some (.map (some m)) := vb C0 4
   have t0 : wr.cell? ⟨W.heap.size + 1, 0, none⟩ = some (.int .i64 a) := vb C1 0
   have t1 : wr.cell? ⟨W.heap.size + 1, 1, none⟩ = some (.int .i64 b) := vb C1 1
   replace z0 := cell_a1 z0 (.cells #[.int .i64 x.f0, .slice A2 x.f1.length c2] 60)
   replace z1 := cell_a1 z1 (.cells #[.int .i64 x.f0, .slice A2 x.f1.length c2] 60)
   replace z2 := cell_a1 z2 (.cells #[.int .i64 x.f0, .slice A2 x.f1.length c2] 60)
   replace z3 := cell_a1 z3 (.cells #[.int .i64 x.f0, .slice A2 x.f1.length c2] 60)
   replace z4 := cell_a1 z4 (.cells #[.int .i64 x.f0, .slice A2 x.f1.length c2] 60)
   replace t0 := cell_a1 t0 (.cells #[.int .i64 x.f0, .slice A2 x.f1.length c2] 60)
   replace t1 := cell_a1 t1 (.cells #[.int .i64 x.f0, .slice A2 x.f1.length c2] 60)
   go_wp2_with (first | (go_at_call 57; (with_reducible refine (strokes_calls T O L x.f0 a b A R c m w0 _ XC1.out f0a f0b ha ha' hb hb').mono ?_); rintro e w4 ⟨v, rfl, hs4, hm4, hk4⟩; have XC4 := zh (XC1.out.step hk4 hm4); have C04 := zh ((hk4.block _ (blk_lt C01.out) (fun e_ => XC1.out.memo.no_cells (e_ ▸ C01.out))).trans C01.out); have C14 := zh ((hk4.block _ (blk_lt C11.out) (fun e_ => XC1.out.memo.no_cells (e_ ▸ C11.out))).trans C11.out); have C24 := zh ((hk4.block _ (blk_lt C21.out) (fun e_ => XC1.out.memo.no_cells (e_ ▸ C21.out))).trans C21.out); have E4 := zh ((hk4.block _ (blk_lt E1.out) (fun e_ => XC1.out.memo.no_cells (e_ ▸ E1.out))).trans E1.out); have KP4 := zh (KP1.out.trans hk4); obtain ⟨A3, c3, rfl, hl3, hC3⟩ := Kd.R_reads hs4; have HC3 := zh hC3; clear hs4 hm4 hk4 hC3 hl3))
   obtain ⟨wo, hwo⟩ : ∃ wo, wo = wr := ⟨_, rfl⟩
   subst hwo
   have HW := zh (strokes_width T R x.f0 a b)
   have hwl := strokes_len T R x.f0 a b
   have HME : Aside0 (missEntry T R p a b x = missOf (x.f1.drop (p * width (regAt R x.f0))) (strokes T R x.f0 a b)) := ⟨rfl⟩
   rw [← HW.out] at HME
   have hfit : p * (strokes T R x.f0 a b).length + (strokes T R x.f0 a b).length ≤ x.f1.length := by
    rw [HW.out]
    have e1 := HF1.out
    have q0 : 0 ≤ L / 2 := by omega
    generalize L / 2 = q at q0 e1 hp
    obtain ⟨qn, rfl⟩ := Int.eq_ofNat_of_zero_le q0
    have e2 : x.f1.length = qn * width (regAt R x.f0) := by
     have : ((qn : Int) * ((width (regAt R x.f0) : Nat) : Int)) = ((qn * width (regAt R x.f0) : Nat) : Int) := by simp
     rw [this] at e1
     omega
    have e3 : (p + 1) * width (regAt R x.f0) ≤ qn * width (regAt R x.f0) := Nat.mul_le_mul_right _ (by omega)
    rw [Nat.add_mul, Nat.one_mul] at e3
    omega
   have hp8 : p ≤ 8 := by omega
   have hpm : p * (strokes T R x.f0 a b).length ≤ 8 * 4 := Nat.mul_le_mul hp8 hwl
   clear z0 z1 z2 z3 z4 z5 t0 t1 y0 y1
   go_loopw [9, 30] (fun o u wr2 => ∃ j : Nat, j ≤ (strokes T R x.f0 a b).length ∧ u = .int .i64 j ∧ o = .int .i64 ((missUpto T R hs p a b k + missTo (x.f1.drop (p * (strokes T R x.f0 a b).length)) (strokes T R x.f0 a b) j : Nat) : Int) ∧ Aside0 (Below w4.heap.size w4 wr2)) (fun _ u _ => (strokes T R x.f0 a b).length - (intOf u).toNat)
   case atStart => exact ⟨0, Nat.zero_le _, rfl, rfl, ⟨Below.refl _ _⟩⟩
   case round =>
    obtain ⟨j, hj, rfl, rfl, HB4⟩ := hrel
    by_cases hlj : j < (strokes T R x.f0 a b).length
    ·obtain ⟨ad3, rfl, x3⟩ := C_int_at (Kd.C_below HC3.out HB4.out) j hlj
     obtain ⟨ad2, rfl, x2⟩ := C_int_at (Kd.C_below HSA.out (XC4.out.below HB4.out).base) (p * (strokes T R x.f0 a b).length + j) (by omega)
     have HS2 := zh (missTo_succ (x.f1.drop (p * (strokes T R x.f0 a b).length)) (strokes T R x.f0 a b) j)
     have hmt := missTo_le (x.f1.drop (p * (strokes T R x.f0 a b).length)) (strokes T R x.f0 a b) j
     rw [show (x.f1.drop (p * (strokes T R x.f0 a b).length)).getD j 0 = x.f1.getD (p * (strokes T R x.f0 a b).length + j) 0 from by simp [List.getD_eq_getElem?_getD, List.getElem?_drop]] at HS2
     generalize x.f1.getD (p * (strokes T R x.f0 a b).length + j) 0 = y at x2 HS2
     generalize (strokes T R x.f0 a b).getD j 0 = t at x3 HS2
     have e5 := (blk_below E4.out HB4.out)
     have e6 := (blk_below C24.out HB4.out)
     have x5 : wr.cell? ⟨wo.heap.size, 1, none⟩ = some (.slice (some ad2) x.f1.length c2) := (blk_cell e5 1).trans rfl
     have x6 : wr.cell? ⟨W.heap.size + 1 + 1, 0, none⟩ = some (.func (.func 87) #[] #[]) := (blk_cell e6 0).trans rfl
     clear e5 e6
     have s5 : ((p : Int) * ((strokes T R x.f0 a b).length : Int)) = ((p * (strokes T R x.f0 a b).length : Nat) : Int) := by simp
     have s1 : IntKind.i64.wrap ((p : Int) * ((strokes T R x.f0 a b).length : Int)) = ((p * (strokes T R x.f0 a b).length : Nat) : Int) := by rw [s5]; exact IntWalk.i64_in _ ⟨by omega, by omega⟩
     have s2 : IntKind.i64.wrap (((p * (strokes T R x.f0 a b).length : Nat) : Int) + (j : Int)) = ((p * (strokes T R x.f0 a b).length + j : Nat) : Int) := by rw [show (((p * (strokes T R x.f0 a b).length : Nat) : Int) + (j : Int)) = ((p * (strokes T R x.f0 a b).length + j : Nat) : Int) from by simp]; exact IntWalk.i64_in _ ⟨by omega, by omega⟩
     have s3 : (0 : Int) ≤ ((p * (strokes T R x.f0 a b).length + j : Nat) : Int) := Int.natCast_nonneg _
     have s4 : ((p * (strokes T R x.f0 a b).length + j : Nat) : Int) < (x.f1.length : Int) := Int.ofNat_lt.2 (by omega)
     have s6 : ((p * (strokes T R x.f0 a b).length + j : Nat) : Int).toNat = p * (strokes T R x.f0 a b).length + j := Int.toNat_natCast _
     clear s5
     cases hq : (decide (y ≠ -2) && decide (y ≠ t)) with
     | true =>
      have HQ := zh (fun W5 => hq ▸ otherwise1_calls y t W5)
      rw [hq, if_pos rfl] at HS2
      clear hq
      go_wp2
      go_quiet ((exact Calls.quiet_of ((HQ.out _).mono (fun _ _ h_ => ⟨h_.1, h_.2.out⟩))))
      clear s1 s2 s3 s4 s6
      have HB5 := zh (pw_below_drewN HB4.out nq)
      clear x2 x3 x5 x6
      go_wp2
      go_roundw
      case rel => exact ⟨j + 1, by omega, by go_num, by rw [HS2.out]; go_num, HB5⟩
      case measure => simp [intOf]; omega
     | false =>
      have HQ := zh (fun W5 => hq ▸ otherwise1_calls y t W5)
      rw [hq, if_neg (by simp)] at HS2
      clear hq
      go_wp2
      go_quiet ((exact Calls.quiet_of ((HQ.out _).mono (fun _ _ h_ => ⟨h_.1, h_.2.out⟩))))
      clear s1 s2 s3 s4 s6
      have HB5 := zh (pw_below_drewN HB4.out nq)
      clear x2 x3 x5 x6
      go_wp2
      go_roundw
      case rel => exact ⟨j + 1, by omega, by go_num, by rw [HS2.out]; rfl, HB5⟩
      case measure => simp [intOf]; omega
    ·obtain rfl : j = (strokes T R x.f0 a b).length := by omega
     go_wp2
     go_roundw
     case rel => exact ⟨k + 1, by omega, by go_num, by rw [missTo_all, ← HME.out, ← HS.out], ⟨XC4.out.below HB4.out⟩, ⟨blk_below C04.out HB4.out⟩, ⟨blk_below C14.out HB4.out⟩, ⟨blk_below C24.out HB4.out⟩, ⟨KP4.out.trans (Kp.of_below HB4.out)⟩⟩
     case measure => simp [intOf]; omega
  ·obtain rfl : k = hs.length := by omega
   go_wp2
   go_ret
   exact ⟨by rw [missUpto_all]; rfl, XC.out.memo, KP.out⟩
end Go.Proofs.YtagkfkdoibnhfaaDoor.K
end
section
namespace Go.Proofs.YtagkfkdoibnhfaaDoor.K
open Go.RowKit Go.Shelf Go.Proofs.YtagkfkdoibnhfaaDoorW.PrintWords Go.Proofs.YtagkfkdoibnhfaaDoorW.PrintLast Go.Proofs.YtagkfkdoibnhfaaDoorW.PrintMore Go.Proofs.YtagkfkdoibnhfaaDoor.H
set_option linter.unusedVariables false
set_option linter.unusedSimpArgs false
attribute [local go_sem] Oper.semAt_some
structure KB (T : Int) (R : List S66) (m : Nat) (W W' : World) : Prop where
 kp : Kp m W W'
 memo : Memo T R W m → Memo T R W' m
theorem KB.refl (T : Int) (R : List S66) (m : Nat) (W : World) : KB T R m W W := ⟨Kp.refl m W, id⟩
theorem KB.trans {T : Int} {R : List S66} {m : Nat} {A B C : World} (h : KB T R m A B) (k : KB T R m B C) : KB T R m A C := ⟨h.kp.trans k.kp, fun x => k.memo (h.memo x)⟩
theorem KB.of_below {T : Int} {R : List S66} {m : Nat} {A B : World} (h : Below A.heap.size A B) : KB T R m A B := ⟨Kp.of_below h, fun x => x.below h⟩
theorem KB.alloc (T : Int) (R : List S66) (m : Nat) (A : World) (o : Obj) : KB T R m A (A.alloc o) := KB.of_below (below_alloc (Below.refl _ _) o)
theorem KB.at {T : Int} {R : List S66} {m : Nat} {A B : World} (h : KB T R m A B) {k : Nat} {o : Obj} (hk : A.heap[k]? = some o) (hne : k ≠ m) : B.heap[k]? = some o := (h.kp.block k (blk_lt hk) hne).trans hk
structure KM (T : Int) (R : List S66) (m n : Nat) (W W' : World) : Prop where
 os : W'.os = W.os
 tape : W'.tape = W.tape
 output : W'.output = W.output
 size : W.heap.size ≤ W'.heap.size
 block : ∀ i o, W.heap[i]? = some o → i ≠ m → (i < n ∨ o.isCells = true) → W'.heap[i]? = some o
 memo : Memo T R W m → Memo T R W' m
theorem KB.weak {T : Int} {R : List S66} {m : Nat} {A B : World} (h : KB T R m A B) (n : Nat) : KM T R m n A B :=
 ⟨h.kp.os, h.kp.tape, h.kp.output, h.kp.size, fun i o hi hm _ => h.at hi hm, h.memo⟩
theorem KM.mono {T : Int} {R : List S66} {m n n' : Nat} {A B : World} (h : KM T R m n A B) (hn : n' ≤ n) : KM T R m n' A B := { h with block := fun i o hi hm ho => h.block i o hi hm (ho.imp (fun h => Nat.lt_of_lt_of_le h hn) id) }
theorem KM.put (T : Int) (R : List S66) {m n : Nat} {A : World} {l : Nat} {o : Obj} (o' : Obj) (hl : A.heap[l]? = some o) (ho : o.isCells = false) (hn : n ≤ l) (hm : m ≠ l) : KM T R m n A (A.putObj l o') :=
 ⟨rfl, rfl, rfl, by simp, fun i x hi him hx => (World.putObj_heap_other (by rintro rfl; rw [hl] at hi; cases hi; rcases hx with hx | hx; omega; rw [ho] at hx; cases hx)).trans hi, fun x => x.move (World.putObj_heap_other hm)⟩
theorem KM.cells {T : Int} {R : List S66} {m n : Nat} {A B : World} (h : KM T R m n A B) {k : Nat} {c : Array Value} {t : TypeId} {f : Nat × Nat} (hk : A.heap[k]? = some (.cells c t f)) (hne : k ≠ m) : B.heap[k]? = some (.cells c t f) := h.block k _ hk hne (.inr rfl)
theorem KM.at {T : Int} {R : List S66} {m n : Nat} {A B : World} (h : KM T R m n A B) {k : Nat} {o : Obj} (hk : A.heap[k]? = some o) (hne : k ≠ m) (hn : k < n) : B.heap[k]? = some o := h.block k _ hk hne (.inl hn)
structure KR (T : Int) (R : List S66) (m : Nat) (S : Nat → Prop) (W W' : World) : Prop where
 os : W'.os = W.os
 tape : W'.tape = W.tape
 output : W'.output = W.output
 size : W.heap.size ≤ W'.heap.size
 block : ∀ i, S i → i < W.heap.size → i ≠ m → W'.heap[i]? = W.heap[i]?
 memo : Memo T R W m → Memo T R W' m
theorem KR.refl (T : Int) (R : List S66) (m : Nat) (S : Nat → Prop) (W : World) : KR T R m S W W := ⟨rfl, rfl, rfl, Nat.le_refl _, fun _ _ _ _ => rfl, id⟩
theorem KR.trans {T : Int} {R : List S66} {m : Nat} {S : Nat → Prop} {A B C : World} (h : KR T R m S A B) (k : KR T R m S B C) : KR T R m S A C :=
 ⟨k.os.trans h.os, k.tape.trans h.tape, k.output.trans h.output, Nat.le_trans h.size k.size, fun i hi hl hm => (k.block i hi (Nat.lt_of_lt_of_le hl h.size) hm).trans (h.block i hi hl hm), fun x => k.memo (h.memo x)⟩
theorem KB.round {T : Int} {R : List S66} {m : Nat} {A B : World} (h : KB T R m A B) (S : Nat → Prop) : KR T R m S A B :=
 ⟨h.kp.os, h.kp.tape, h.kp.output, h.kp.size, fun i _ hi hm => h.kp.block i hi hm, h.memo⟩
theorem KR.mono {T : Int} {R : List S66} {m : Nat} {S S' : Nat → Prop} {A B : World} (h : KR T R m S A B) (hn : ∀ i, S' i → i < A.heap.size → S i) : KR T R m S' A B := { h with block := fun i hi hl hm => h.block i (hn i hi hl) hl hm }
theorem KR.at {T : Int} {R : List S66} {m : Nat} {S : Nat → Prop} {A B : World} (h : KR T R m S A B) {k : Nat} {o : Obj} (hk : A.heap[k]? = some o) (hkn : S k) (hne : k ≠ m) : B.heap[k]? = some o := (h.block k hkn (blk_lt hk) hne).trans hk
theorem KR.putObj {T : Int} {R : List S66} {m : Nat} {S : Nat → Prop} {A B : World} (h : KR T R m S A B) (l : Nat) (o : Obj) (hl : ¬ S l ∨ A.heap.size ≤ l) (hm : m ≠ l) : KR T R m S A (B.putObj l o) :=
 ⟨h.os, h.tape, h.output, by simpa using h.size, fun i hi hil hne => (World.putObj_heap_other (by rintro rfl; rcases hl with hl | hl; exact hl hi; omega)).trans (h.block i hi hil hne), fun x => (h.memo x).move (World.putObj_heap_other hm)⟩
theorem KR.set {T : Int} {R : List S66} {m : Nat} {S : Nat → Prop} {A B : World} (h : KR T R m S A B) {g : Nat} (hg : ¬ S g ∨ A.heap.size ≤ g) (hm : m ≠ g) (j : Nat) (v : Value) : KR T R m S A (B.setCell ⟨g, j, none⟩ v) :=
 ⟨h.os, h.tape, h.output, by simpa using h.size, fun i hi hil hne => (Below.heap_setCell B ⟨g, j, none⟩ v i (by show i ≠ g; rintro rfl; rcases hg with hg | hg; exact hg hi; omega)).trans (h.block i hi hil hne), fun x => (h.memo x).move (Below.heap_setCell B ⟨g, j, none⟩ v m hm)⟩
theorem KR.step {T : Int} {R : List S66} {m : Nat} {S : Nat → Prop} {A B C : World} (h : KR T R m S A B) (k : KB T R m B C) : KR T R m S A C := h.trans (k.round S)
theorem KR.weak {T : Int} {R : List S66} {m n : Nat} {S : Nat → Prop} {A B C : World} (h : KR T R m S A B) (k : KM T R m n B C) (hS : ∀ i, S i → i < A.heap.size → i < n) : KR T R m S A C :=
 ⟨k.os.trans h.os, k.tape.trans h.tape, k.output.trans h.output, Nat.le_trans h.size k.size, fun i hi hl hm => by
  have e := h.block i hi hl hm
  obtain ⟨o, ho⟩ : ∃ o, A.heap[i]? = some o := ⟨_, Array.getElem?_eq_getElem hl⟩
  rw [ho] at e ⊢
  exact k.block i o e hm (.inl (hS i hi hl)), fun x => k.memo (h.memo x)⟩
theorem KR.ctx {T : Int} {A : Option Addr} {R : List S66} {m : Nat} {S : Nat → Prop} {w0 w W : World} (h : KR T R m S w W) (hx : Ctx w0 w T A R m) (hS : ∀ i, i < w0.heap.size → S i) : Ctx w0 W T A R m :=
 { hx with base := ⟨h.os.trans hx.base.os, h.tape.trans hx.base.tape, h.output.trans hx.base.output, Nat.le_trans hx.base.size h.size, fun i hi => (h.block i (hS i hi) (Nat.lt_of_lt_of_le hi hx.base.size) (by have := hx.hm; omega)).trans (hx.base.block i hi)⟩, memo := h.memo hx.memo }
theorem blk_putObj {A : World} {k l : Nat} {c : Array Value} {t : TypeId} {f : Nat × Nat} {o o' : Obj} (h : A.heap[k]? = some (.cells c t f)) (hl : A.heap[l]? = some o) (ho : o.isCells = false) : (A.putObj l o').heap[k]? = some (.cells c t f) := by
 refine (World.putObj_heap_other ?_).trans h
 rintro rfl
 rw [h] at hl
 cases hl
 cases ho
theorem yield_any' {m : Nat} (m' : Nat) {P : Program} {l : Nat} {args : Array Value} {W : World} {Q : Ending → World → Prop} (h : YieldAt Fence.wide m P l args W Q) : YieldAt Fence.wide m' P l args W Q := by
 obtain ⟨fn, tmps, assign, body, hy, hR⟩ := h
 exact ⟨fn, tmps, assign, body, hy, hR.1, fun c cs _ => hR.2 c cs (room_wide _)⟩
def SeqM {α : Type} (g : Nat) (lb : Array Value) (encs : α → Array Value) (Ok : α → Prop) (T : Int) (R : List S66) (m : Nat) (S : Nat → Prop) (xs : List α) (w : World) : Prop :=
 ∀ (l : Nat) (J Jx : List α → World → Prop) (W : World), KR T R m S w W → (∀ s A B, J s A → KM T R m W.heap.size A B → J s B) → (∀ s A B, Jx s A → KM T R m W.heap.size A B → Jx s B) →
  (∀ pre x W1, Ok x → pre ++ [x] <+: xs → J pre W1 → YieldAt Fence.wide 9 Tryd.prog l (encs x) W1 fun e W' =>
   (e = .returned (.bool true) ∧ J (pre ++ [x]) W' ∧ KR T R m (fun i => S i ∨ W.heap.size ≤ i) W1 W') ∨ (e = .returned (.bool false) ∧ Jx (pre ++ [x]) W' ∧ KR T R m (fun i => S i ∨ W.heap.size ≤ i) W1 W')) →
  J [] W →
  CallsIn Fence.wide 9 Tryd.prog g (#[.func (.yield l) #[] #[]] ++ lb) W fun e W' => (∃ v, e = .returned v) ∧ (J xs W' ∨ (∃ pre, pre <+: xs ∧ Jx pre W'))
theorem callsIn_any {m : Nat} (m' : Nat) {P : Program} {f : FuncId} {args : Array Value} {W : World} {Q : Ending → World → Prop} (h : CallsIn Fence.wide m P f args W Q) : CallsIn Fence.wide m' P f args W Q := callsIn_wide.2 (callsIn_wide.1 h)
def postM {α : Type} (B : Nat) (Kp : World → World → Prop) (I : List α → World → Prop) (Ix : Code → List α → World → Prop) (xs : List α) (W : World) : Exit → Act → World → Prop
 | .normal, _, W' => KeepsFrom B W W' ∧ Kp W W' ∧ I xs W'
 | .ret, _, W' => KeepsFrom B W W' ∧ Kp W W' ∧ Ix .ret xs W'
 | .exit id, _, W' => KeepsFrom B W W' ∧ Kp W W' ∧ Ix (.exit id) xs W'
 | .goto t, _, W' => KeepsFrom B W W' ∧ Kp W W' ∧ Ix (.goto t) xs W'
 | .panic _, _, _ => False
 | .outgrown, _, _ => False
theorem wpIn_range {α : Type} {g : Operand} {ps : Array Tmp} {assign body : Code} {Q : Exit → Act → World → Prop} {a : Act} {w : World} {n : Nat} (h1 : 1 ≤ n)
  {gf : Nat} {lb : Array Value} (hg : a.eval g = .func (.func gf) #[] lb) (eg : ∀ args w, (callFunc gf args).run Tryd.prog w = .ok (.enter gf args) w)
  {encs : α → Array Value} {Ok : α → Prop} {T : Int} {R : List S66} {m : Nat} {S : Nat → Prop} {xs : List α} (hseq : SeqM gf lb encs Ok T R m S xs w) (hS : ∀ i, S i → i < w.heap.size) (hm : m < w.heap.size) (hps : ∀ x, (encs x).size = ps.size)
  (I : List α → World → Prop) (Ix : Code → List α → World → Prop) (hI : ∀ s A B, I s A → KM T R m w.heap.size A B → I s B) (hIx : ∀ c s A B, Ix c s A → KM T R m w.heap.size A B → Ix c s B)
  (h0 : I [] w) (Ax : α → Act → World → Prop) (hAx : ∀ x a' A B, Ax x a' A → KM T R m w.heap.size A B → Ax x a' B)
  (hassign : ∀ (l : Nat) (pre : List α) (x : α) (W : World) (K : Act → World → Prop), I pre W → (∀ a' W', KeepsFrom w.heap.size W W' → KR T R m (fun i => S i ∨ w.heap.size + 2 ≤ i) W W' → I pre W' → Ax x a' W' → K a' W') →
   assign.wpIn (Fence.wide.inRound l) (n - 1 - 1) Tryd.prog (Exit.then K (fun _ _ _ => False)) { tmps := (ps.zip (encs x)).foldl (fun t (p, v) => t.setIfInBounds p v) a.tmps, defers := [] } W)
  (hbody : ∀ (l : Nat) (pre : List α) (x : α) (a' : Act) (W : World), w.heap.size ≤ l → Ok x → pre ++ [x] <+: xs → I pre W → Ax x a' W → body.wpIn (Fence.wide.inRound l) (n - 1 - 1) Tryd.prog (postM w.heap.size (KR T R m (fun i => S i ∨ w.heap.size + 2 ≤ i)) I Ix (pre ++ [x]) W) a' W)
  (hdone : ∀ (D : Nat) (W : World), w.heap.size ≤ D → I xs W → W.heap[D]? = some (.deferred (some [])) → Q .normal { a with defers := { target := .collected D, args := #[] } :: a.defers } W)
  (hstop : ∀ (D : Nat) (c : Code) (pre : List α) (W : World), w.heap.size ≤ D → pre <+: xs → Ix c pre W → W.heap[D]? = some (.deferred (some [])) → c.wpIn Fence.wide n Tryd.prog Q { a with defers := { target := .collected D, args := #[] } :: a.defers } W) :
  (Code.rangeFunc g ps assign body).wpIn Fence.wide n Tryd.prog Q a w := by
 refine wpIn_rangeFunc ?_
 intro fn hfn
 obtain ⟨rec, hrec⟩ : ∃ rec : LoopState → Option Code → Loop, rec = fun st pe => { state := st, pending := pe, fn, tmps := a.tmps, params := ps, assign, body, defers := w.heap.size } := ⟨_, rfl⟩
 obtain ⟨W1, hW1⟩ : ∃ W1, (w.alloc (.deferred (some []))).alloc (.loop (rec .ready none)) = W1 := ⟨_, rfl⟩
 have hL1 : W1.heap[w.heap.size + 1]? = some (.loop (rec .ready none)) := by
  rw [← hW1]; have := World.alloc_heap_new (w.alloc (.deferred (some []))) (.loop (rec .ready none)); rwa [World.size_alloc] at this
 have hK1 : W1.heap[w.heap.size]? = some (.deferred (some [])) := by
  rw [← hW1]; exact (Below.heap_alloc _ _ _ (by simp)).trans (World.alloc_heap_new w _)
 have hsz1 : W1.heap.size = w.heap.size + 2 := by rw [← hW1]; simp
 have hkm : KB T R m w W1 := by rw [← hW1]; exact (KB.alloc _ _ _ _ _).trans (KB.alloc _ _ _ _ _)
 refine ⟨w.heap.size + 1, [{ target := .collected w.heap.size, args := #[] }], W1, { target := .fn (.func gf) lb, args := #[.func (.yield (w.heap.size + 1)) #[] #[]] }, W1, gf,
  #[.func (.yield (w.heap.size + 1)) #[] #[]] ++ lb, W1, ?_, ?_, ?_, ?_, fun _ => h1, ?_⟩
 ·rw [← hW1, hrec]; exact run_enterLoop_outer _ _ _ _ _
 ·simp only [resolve, hg]
  simp [go_sem]
 ·intro f' hf'; trivial
 ·simp [invoke, go_sem, eg]
 ·refine (callsIn_any (n - 1) (hseq (w.heap.size + 1)
   (fun pre W => I pre W ∧ W.heap[w.heap.size + 1]? = some (.loop (rec .ready none)) ∧ W.heap[w.heap.size]? = some (.deferred (some [])))
   (fun pre W => ∃ c, Ix c pre W ∧ W.heap[w.heap.size + 1]? = some (.loop (rec .done (some c))) ∧ W.heap[w.heap.size]? = some (.deferred (some [])))
   W1 (hkm.round _)
   (fun s A B hs hk => ⟨hI s A B hs.1 (hk.mono (by omega)), hk.at hs.2.1 (by omega) (by omega), hk.at hs.2.2 (by omega) (by omega)⟩)
   (fun s A B hs hk => by
    obtain ⟨c, hc, hl, hd⟩ := hs
    exact ⟨c, hIx c s A B hc (hk.mono (by omega)), hk.at hl (by omega) (by omega), hk.at hd (by omega) (by omega)⟩)
   ?_ ⟨hI _ _ _ h0 (hkm.weak _), hL1, hK1⟩)).mono ?_
  ·rintro pre x W hok hpre ⟨hi, hl, hk⟩
   have hlt : w.heap.size + 1 < W.heap.size := (Array.getElem?_eq_some_iff.1 hl).1
   have hy := run_yield (P := Tryd.prog) (args := encs x) hl (by rw [hrec]; exact hps x)
   rw [hrec] at hy
   refine yield_any' (m := n - 1 - 1) _ ⟨fn, _, assign, body, hy, roundIn_of_wpIn hfn (hassign _ pre x W _ hi ?_)⟩
   clear hy
   intro a' Wa hkfa hkpa hia hax
   have hla := hkfa.same _ _ (by omega) hl rfl
   have hka := hkfa.same _ _ (Nat.le_refl _) hk rfl
   have hlta : w.heap.size + 1 < Wa.heap.size := (Array.getElem?_eq_some_iff.1 hla).1
   refine ⟨_, run_beginRound hla (by rw [hrec]), ?_⟩
   have hl2 : (Wa.putObj (w.heap.size + 1) (.loop { rec .ready none with state := .busy })).heap[w.heap.size + 1]? = some (.loop { rec .ready none with state := .busy }) := World.putObj_heap_same hlta
   have hk2 : (Wa.putObj (w.heap.size + 1) (.loop { rec .ready none with state := .busy })).heap[w.heap.size]? = some (.deferred (some [])) := (World.putObj_heap_other (by omega)).trans hka
   have hn1 : ¬ (S (w.heap.size + 1) ∨ w.heap.size + 2 ≤ w.heap.size + 1) := by rintro (h | h); exact absurd (hS _ h) (by omega); omega
   have hw2 : KR T R m (fun i => S i ∨ w.heap.size + 2 ≤ i) W (Wa.putObj (w.heap.size + 1) (.loop { rec .ready none with state := .busy })) := hkpa.putObj _ _ (.inl hn1) (by omega)
   refine wpIn_mono (hbody _ pre x a' _ (by omega) hok hpre (hI _ _ _ hia (KM.put T R _ hla rfl (by omega) (by omega))) (hAx _ _ _ _ hax (KM.put T R _ hla rfl (by omega) (by omega)))) ?_
   have fin : ∀ (jump : Option Code) (W3 : World), KeepsFrom w.heap.size (Wa.putObj (w.heap.size + 1) (.loop { rec .ready none with state := .busy })) W3 →
     (Instr.endRound (w.heap.size + 1) jump).run Tryd.prog W3 = .ok (.bool jump.isNone) (W3.putObj (w.heap.size + 1) (.loop (rec (if jump.isNone then .ready else .done) jump))) ∧
     W3.heap[w.heap.size + 1]? = some (.loop { rec .ready none with state := .busy }) ∧
     (W3.putObj (w.heap.size + 1) (.loop (rec (if jump.isNone then .ready else .done) jump))).heap[w.heap.size + 1]? = some (.loop (rec (if jump.isNone then .ready else .done) jump)) ∧
     (W3.putObj (w.heap.size + 1) (.loop (rec (if jump.isNone then .ready else .done) jump))).heap[w.heap.size]? = some (.deferred (some [])) := fun jump W3 hk3 => by
    have hl3 := hk3.same _ _ (by omega) hl2 rfl
    have := run_endRound (P := Tryd.prog) jump hl3
    rw [hrec] at this ⊢
    exact ⟨this, by rw [hrec] at hl3; exact hl3, World.putObj_heap_same (Array.getElem?_eq_some_iff.1 hl3).1, (World.putObj_heap_other (by omega)).trans (hk3.same _ _ (Nat.le_refl _) hk2 rfl)⟩
   rintro e a3 W3 hp
   cases e with
   | normal =>
    obtain ⟨hk3, hkp3, hi3⟩ := hp
    obtain ⟨hr, hl3, hl4, hk4⟩ := fin none W3 hk3
    exact ⟨_, _, hr, .inl ⟨rfl, ⟨hI _ _ _ hi3 (KM.put T R _ hl3 rfl (by omega) (by omega)), hl4, hk4⟩, by rw [hsz1]; exact (hw2.trans hkp3).putObj _ _ (.inl hn1) (by omega)⟩⟩
   | ret =>
    obtain ⟨hk3, hkp3, hi3⟩ := hp
    obtain ⟨hr, hl3, hl4, hk4⟩ := fin (some .ret) W3 hk3
    exact ⟨_, _, hr, .inr ⟨rfl, ⟨.ret, hIx _ _ _ _ hi3 (KM.put T R _ hl3 rfl (by omega) (by omega)), hl4, hk4⟩, by rw [hsz1]; exact (hw2.trans hkp3).putObj _ _ (.inl hn1) (by omega)⟩⟩
   | exit id =>
    obtain ⟨hk3, hkp3, hi3⟩ := hp
    obtain ⟨hr, hl3, hl4, hk4⟩ := fin (some (.exit id)) W3 hk3
    exact ⟨_, _, hr, .inr ⟨rfl, ⟨.exit id, hIx _ _ _ _ hi3 (KM.put T R _ hl3 rfl (by omega) (by omega)), hl4, hk4⟩, by rw [hsz1]; exact (hw2.trans hkp3).putObj _ _ (.inl hn1) (by omega)⟩⟩
   | goto t =>
    obtain ⟨hk3, hkp3, hi3⟩ := hp
    obtain ⟨hr, hl3, hl4, hk4⟩ := fin (some (.goto t)) W3 hk3
    exact ⟨_, _, hr, .inr ⟨rfl, ⟨.goto t, hIx _ _ _ _ hi3 (KM.put T R _ hl3 rfl (by omega) (by omega)), hl4, hk4⟩, by rw [hsz1]; exact (hw2.trans hkp3).putObj _ _ (.inl hn1) (by omega)⟩⟩
   | panic ch => exact hp.elim
   | outgrown => exact hp.elim
  ·rintro e W2 ⟨⟨v, rfl⟩, (⟨hi, hl, hk⟩ | ⟨pre, hSp, c, hi, hl, hk⟩)⟩
   ·exact ⟨none, _, by have := run_endLoop (P := Tryd.prog) hl (by rw [hrec]; simp); rw [hrec] at this; exact this, hdone _ _ (Nat.le_refl _) (hI _ _ _ hi (KM.put T R _ hl rfl (by omega) (by omega))) ((World.putObj_heap_other (by omega)).trans hk)⟩
   ·exact ⟨some c, _, by have := run_endLoop (P := Tryd.prog) hl (by rw [hrec]; simp); rw [hrec] at this; exact this, hstop _ c pre _ (Nat.le_refl _) hSp (hIx _ _ _ _ hi (KM.put T R _ hl rfl (by omega) (by omega))) ((World.putObj_heap_other (by omega)).trans hk)⟩
end Go.Proofs.YtagkfkdoibnhfaaDoor.K
end
section
namespace Go.Proofs.YtagkfkdoibnhfaaDoor.K
open Go.RowKit Go.Shelf Go.Proofs.YtagkfkdoibnhfaaDoorW.PrintWords Go.Proofs.YtagkfkdoibnhfaaDoorW.PrintLast Go.Proofs.YtagkfkdoibnhfaaDoorW.PrintMore Go.Proofs.YtagkfkdoibnhfaaDoor.H
set_option linter.unusedVariables false
set_option linter.unusedSimpArgs false
attribute [local go_sem] Oper.semAt_some
def uptoP (N i j : Nat) : List (Int × Int) := ((List.range i).flatMap fun i : Nat => (List.range N).map fun j : Nat => ((i : Int), (j : Int))) ++ (List.range j).map fun j : Nat => ((i : Int), (j : Int))
theorem uptoP_snoc (N i j : Nat) : uptoP N i (j + 1) = uptoP N i j ++ [((i : Int), (j : Int))] := by unfold uptoP; rw [List.range_succ, List.map_append, List.append_assoc]; rfl
theorem uptoP_row (N i : Nat) : uptoP N (i + 1) 0 = uptoP N i N := by
 unfold uptoP
 rw [List.range_succ, List.flatMap_append]
 simp
theorem uptoP_all (N : Nat) : uptoP N N 0 = pairsOf (N : Int) := by
 have e : irange 0 ((N : Int) - 1) = (List.range N).map fun i : Nat => (i : Int) := by
  unfold irange
  rw [show ((N : Int) - 1 + 1 - 0).toNat = N from by omega]
  exact List.map_congr_left fun i _ => by omega
 unfold uptoP pairsOf
 rw [e]
 simp [List.flatMap_map]
 rfl
theorem uptoP_pre (N i j k : Nat) (h : j ≤ k) : uptoP N i j <+: uptoP N i k := by
 obtain ⟨d, rfl⟩ := Nat.exists_eq_add_of_le h
 clear h
 induction d with
 | zero => exact List.prefix_refl _
 | succ d ih => exact ih.trans (by rw [← Nat.add_assoc, uptoP_snoc]; exact List.prefix_append _ _)
theorem uptoP_rows (N i k : Nat) (h : i ≤ k) : uptoP N i 0 <+: uptoP N k 0 := by
 obtain ⟨d, rfl⟩ := Nat.exists_eq_add_of_le h
 clear h
 induction d with
 | zero => exact List.prefix_refl _
 | succ d ih => exact ih.trans (by rw [← Nat.add_assoc, uptoP_row]; exact uptoP_pre _ _ _ _ (Nat.zero_le _))
theorem uptoP_prefix (N i j : Nat) (hi : i < N) (hj : j ≤ N) : uptoP N i j <+: pairsOf (N : Int) := by
 rw [← uptoP_all]
 exact (uptoP_pre N i j N hj).trans (by rw [← uptoP_row]; exact uptoP_rows N (i + 1) N hi)
def encP (x : Int × Int) : Array Value := #[.agg #[.int .i64 x.1, .int .i64 x.2]]
def OkP (N : Nat) (x : Int × Int) : Prop := 0 ≤ x.1 ∧ x.1 < N ∧ 0 ≤ x.2 ∧ x.2 < N
set_option maxRecDepth 100000 in
theorem all_calls (T O L : Int) (A : Option Addr) (n c m : Nat) (w : World) :
  CallsIn Fence.wide 9 Tryd.prog 75 #[.agg #[.int .i64 T, .int .i64 O, .int .i64 L, .slice A n c, .map (some m)]] w fun e w' => e = .returned (.func (.func 88) #[] #[.pointer (some ⟨w.heap.size, 0, none⟩)]) ∧ w' = w.alloc (.cells #[.int .i64 T, .int .i64 O, .int .i64 L, .slice A n c, .map (some m)] 78) := by
 have hu78 := Tryd.underlying78
 refine callsIn_of_wp Tryd.func75 rfl trivial ?_ rfl
 simp only [Tryd.ntmps75, List.size_toArray, List.length_cons, List.length_nil, Nat.reduceAdd, Nat.reduceSub, Array.replicate_succ, Array.replicate_zero, List.push_toArray, List.append_toArray, List.nil_append, List.cons_append]
 gi_wp2
 go_ret
 exact ⟨rfl, rfl⟩
set_option maxRecDepth 100000 in
set_option maxHeartbeats 4000000 in
theorem all_seq (T O L : Int) (A : Option Addr) (R : List S66) (c m B N : Nat) (S : Nat → Prop) (w : World) (hB : w.heap[B]? = some (.cells #[.int .i64 T, .int .i64 O, .int .i64 L, .slice A R.length c, .map (some m)] 78 (0, 0))) (hBn : S B) (hBm : B ≠ m)
  (hN : T * O = (N : Int)) (hN' : N ≤ 100) :
  SeqM 88 #[.pointer (some ⟨B, 0, none⟩)] encP (OkP N) T R m S (pairsOf (N : Int)) w := by
 intro l J Jx W hW hJ hJx hY h0
 have hu78 := Tryd.underlying78
 have hu84 := Tryd.underlying84
 have HW := zh hW
 have HB := zh hB
 have HY := zh hY
 have HJ := zh hJ
 have HJx := zh hJx
 have H0 := zh h0
 have t0 : W.cell? ⟨B, 0, none⟩ = some (.int .i64 T) := (blk_cell (hW.at hB hBn hBm) 0).trans rfl
 have t1 : W.cell? ⟨B, 1, none⟩ = some (.int .i64 O) := (blk_cell (hW.at hB hBn hBm) 1).trans rfl
 have t2 : W.cell? ⟨B, 2, none⟩ = some (.int .i64 L) := (blk_cell (hW.at hB hBn hBm) 2).trans rfl
 have t3 : W.cell? ⟨B, 3, none⟩ = some (.slice A R.length c) := (blk_cell (hW.at hB hBn hBm) 3).trans rfl
 have t4 : W.cell? ⟨B, 4, none⟩ = some (.map (some m)) := (blk_cell (hW.at hB hBn hBm) 4).trans rfl
 clear hW hB hY hJ hJx h0
 refine callsIn_of_wp Tryd.func88 rfl trivial ?_ rfl
 simp only [Tryd.ntmps88, List.size_toArray, List.length_cons, List.length_nil, Nat.reduceAdd, Nat.reduceSub, Array.replicate_succ, Array.replicate_zero, List.push_toArray, List.append_toArray, List.nil_append, List.cons_append]
 gi_wp2_with (refine ⟨trivial, ?_⟩; gi_at_call 56; refine (callsIn_wide.2 (many_calls T O L A R.length c m W (by omega) (by omega))).mono ?_; rintro e w2 ⟨rfl, hb2⟩; rw [hN]; have HB2 := zh (KB.of_below (T := T) (R := R) (m := m) hb2); clear hb2)
 clear t0 t1 t2 t3 t4
 gi_loopw [7] (fun u wr => ∃ i : Nat, i ≤ N ∧ u = .int .i64 i ∧ Aside0 (J (uptoP N i 0) wr) ∧ Aside0 (KR T R m (fun i => S i ∨ W.heap.size ≤ i) W wr)) (fun u _ => N - (intOf u).toNat)
 case atStart => exact ⟨0, Nat.zero_le _, rfl, ⟨HJ.out _ _ _ H0.out (HB2.out.weak _)⟩, ⟨HB2.out.round _⟩⟩
 case round =>
  obtain ⟨i, hi, rfl, HJ1, HK1⟩ := hrel
  by_cases hlt : i < N
  ·have hlt' : (i : Int) < (N : Int) := by omega
   have hb := HK1.out.at (HW.out.at HB.out hBn hBm) (.inl hBn) hBm
   have t0 : wr.cell? ⟨B, 0, none⟩ = some (.int .i64 T) := (blk_cell hb 0).trans rfl
   have t1 : wr.cell? ⟨B, 1, none⟩ = some (.int .i64 O) := (blk_cell hb 1).trans rfl
   have t2 : wr.cell? ⟨B, 2, none⟩ = some (.int .i64 L) := (blk_cell hb 2).trans rfl
   have t3 : wr.cell? ⟨B, 3, none⟩ = some (.slice A R.length c) := (blk_cell hb 3).trans rfl
   have t4 : wr.cell? ⟨B, 4, none⟩ = some (.map (some m)) := (blk_cell hb 4).trans rfl
   clear hb
   gi_wp2_with (refine ⟨trivial, ?_⟩; gi_at_call 56; refine (callsIn_wide.2 (many_calls T O L A R.length c m _ (by omega) (by omega))).mono ?_; rintro e w2 ⟨rfl, hb2⟩; rw [hN]; have HB3 := zh (KB.of_below (T := T) (R := R) (m := m) hb2); clear hb2)
   clear t0 t1 t2 t3 t4
   have hsz := HK1.out.size
   have HK2 := zh (HK1.out.step HB3.out)
   have HJ2 := zh (HJ.out _ _ _ HJ1.out (HB3.out.weak _))
   gi_loopw [12] (fun u wr => ∃ j : Nat, j ≤ N ∧ u = .int .i64 j ∧ Aside0 (J (uptoP N i j) wr) ∧ Aside0 (KR T R m (fun i => S i ∨ W.heap.size ≤ i) W wr)) (fun u _ => N - (intOf u).toNat)
   case atStart => exact ⟨0, Nat.zero_le _, rfl, HJ2, HK2⟩
   case round =>
    obtain ⟨j, hj, rfl, HJ3, HK3⟩ := hrel
    by_cases hlj : j < N
    ·have hlj' : (j : Int) < (N : Int) := by omega
     obtain ⟨fn, tmps, assign, body, hy, hR⟩ := yield_any' 8 (HY.out (uptoP N i j) ((i : Int), (j : Int)) wr ⟨by omega, hlt', by omega, hlj'⟩ (by rw [← uptoP_snoc]; exact uptoP_prefix N i (j + 1) hlt hlj) HJ3.out)
     dsimp only [encP] at hy
     have hR' := zh hR
     clear hR
     gi_wp2
     refine hR'.out.mono ?_
     rintro e W3 (⟨rfl, hJ4, hk4⟩ | ⟨rfl, hJx4, _⟩)
     ·have HJ4 := zh hJ4
      have HK4 := zh (HK3.out.trans hk4)
      clear hJ4 hk4
      gi_wp2
      go_roundw
      case rel => exact ⟨j + 1, by omega, by go_num, ⟨by rw [uptoP_snoc]; exact HJ4.out⟩, HK4⟩
      case measure => simp [intOf]; omega
     ·have HJx4 := zh hJx4
      clear hJx4
      gi_wp2
      refine bodyPost_ret (results_none rfl _ _ _) rfl ?_
      exact ⟨⟨_, rfl⟩, .inr ⟨_, by rw [← uptoP_snoc]; exact uptoP_prefix N i (j + 1) hlt hlj, HJx4.out⟩⟩
    ·obtain rfl : j = N := by omega
     gi_wp2
     go_roundw
     case rel => exact ⟨i + 1, by omega, by go_num, ⟨by rw [uptoP_row]; exact HJ3.out⟩, HK3⟩
     case measure => simp [intOf]; omega
  ·obtain rfl : i = N := by omega
   gi_wp2
   go_end0
   exact ⟨⟨_, rfl⟩, .inl (by rw [← uptoP_all]; exact HJ1.out)⟩
end Go.Proofs.YtagkfkdoibnhfaaDoor.K
end
section
namespace Go.Proofs.YtagkfkdoibnhfaaDoor.K
open Go.RowKit Go.Shelf Go.Proofs.YtagkfkdoibnhfaaDoorW.PrintWords Go.Proofs.YtagkfkdoibnhfaaDoorW.PrintLast Go.Proofs.YtagkfkdoibnhfaaDoorW.PrintMore Go.Proofs.YtagkfkdoibnhfaaDoor.H
set_option linter.unusedVariables false
theorem rows_in {l n : Nat} {P : Program} {row : String} {args : Array Value} {w : World} {R : Value → World → Prop} (h : Rows P row args w R) : RowsIn (Fence.wide.inRound l) n P row args w R :=
 fun c cs _ => let ⟨v, w', r, s⟩ := h c cs; ⟨v, w', r, stepsIn_wide.2 s⟩
theorem op_in {l n : Nat} {P : Program} {o : Oper} {a : Act} {w : World} {K : Act → World → Prop} {Q : Exit → Act → World → Prop} (hd : ∀ c, o.op ≠ .defer c) (h : o.wp P a w K Q) : o.wpIn (Fence.wide.inRound l) n P a w K Q := by
 unfold Oper.wpIn
 refine ⟨fun _ _ => trivial, ?_⟩
 rw [show (Fence.wide.inRound l).round = some l from rfl, Oper.semAt_some l _ _ hd]
 unfold Oper.wp at h
 generalize (execOp a.eval o).run P w = r at *
 cases r with
 | ok x w' =>
  cases x with
  | value v => exact h
  | skip => exact h
  | defer d => exact h
  | enter f args => exact ⟨fun h_ => (by cases h_), CallsIn.inRound l (callsIn_wide.2 h)⟩
  | row row args => exact ⟨fun h_ => (by cases h_), rows_in h⟩
  | round _ _ _ _ _ => exact h.elim
  | _ => exact h.elim
 | halt x w' => cases x <;> exact h
theorem any_in {l n : Nat} {P : Program} {md : Region.Mode} {ops : Array Oper} {Q : Exit → Act → World → Prop} (hd : ∀ (i : Nat) (o : Oper), ops[i]? = some o → ∀ c, o.op ≠ .defer c) (hQ : ¬ LetsOut Q) :
  ∀ (fuel : Nat) (listed : Array Bool) (a : Act) (w : World), wpAny P md ops Q fuel listed a w → wpAnyIn (Fence.wide.inRound l) n P md ops Q fuel listed a w
 | 0, _, _, _, h => h
 | fuel + 1, listed, a, w, h => ⟨h.1, fun i hi => by
  have h2 := h.2 i hi
  unfold wpOp at h2
  unfold wpOpIn
  split
  ·rename_i hn
   rw [hn] at h2
   exact any_in hd hQ fuel _ _ _ h2
  ·rename_i o ho
   rw [ho] at h2
   simp only at h2
   split
   ·rename_i hw
    rw [if_pos hw] at h2
    rcases h2 with h2 | h2
    ·exact Oper.wpIn_mono (fun a w h => any_in hd hQ fuel _ _ _ h) (op_in (hd i o ho) h2)
    ·exact absurd h2.2 hQ
   ·rename_i hw
    rw [if_neg hw] at h2
    exact ⟨fun _ _ => trivial, any_in hd hQ fuel _ _ _ h2⟩⟩
def noDefer (ops : Array Oper) : Bool := ops.toList.all fun o => match o.op with | .defer _ => false | _ => true
theorem noDefer_spec {ops : Array Oper} (h : noDefer ops = true) : ∀ (i : Nat) (o : Oper), ops[i]? = some o → ∀ c, o.op ≠ .defer c := by
 intro i o ho c hc
 have hm : o ∈ ops.toList := by
  rw [← Array.getElem?_toList] at ho
  exact List.mem_of_getElem? ho
 have := List.all_eq_true.1 h o hm
 rw [hc] at this
 cases this
theorem start_in {l₂ m : Nat} {P : Program} {ops : Array Oper} {Q : Exit → Act → World → Prop} {S : World → Prop} {ds : List Nat} {id n : Nat} {a : Act} {w : World} (l : Array Bool) (hm : P.follows .mixedOrders = true) (hn : ops.size = n) (hl : Array.replicate n false = l) (hd : noDefer ops = true) (hQ : ¬ LetsOut Q) (hS : S w.drew)
  (h : S w.drew → wpAnyLast P .any ops Q S ds n l a w.drew) : (Code.region id ops true).wpIn (Fence.wide.inRound l₂) m P Q a w := by
 subst hn
 subst hl
 exact wpIn_region_any hm (any_in (noDefer_spec hd) hQ _ _ _ _ (wpAny_of_last _ _ _ _ (h hS)))
end Go.Proofs.YtagkfkdoibnhfaaDoor.K
end
section
namespace Go.Proofs.YtagkfkdoibnhfaaDoor.K
open Go.RowKit Go.Shelf Go.Proofs.YtagkfkdoibnhfaaDoorW.PrintWords Go.Proofs.YtagkfkdoibnhfaaDoorW.PrintLast Go.Proofs.YtagkfkdoibnhfaaDoorW.PrintMore Go.Proofs.YtagkfkdoibnhfaaDoor.H
set_option linter.unusedVariables false
set_option linter.unusedSimpArgs false
attribute [local go_sem] Oper.semAt_some
def fitP (T : Int) (R : List S66) (hs : List S60) (p : Nat) (x : Int × Int) : Bool := decide (miss T R hs (p : Int) x.1 x.2 = 0)
theorem choices_filter (T O : Int) (R : List S66) (hs : List S60) (p N : Nat) (hN : T * O = (N : Int)) : choices T O R hs (p : Int) = (pairsOf (N : Int)).filter (fitP T R hs p) := by unfold choices fitP; rw [hN]
theorem choices_ok {T O : Int} {R : List S66} {hs : List S60} {p N : Nat} (hN : T * O = (N : Int)) {pre : List (Int × Int)} (h : pre <+: pairsOf (N : Int)) : pre.filter (fitP T R hs p) <+: choices T O R hs (p : Int) := by
 rw [choices_filter T O R hs p N hN]
 obtain ⟨t, ht⟩ := h
 exact ⟨t.filter (fitP T R hs p), by rw [← ht, List.filter_append]⟩
set_option maxRecDepth 100000 in
theorem fits_calls (T O L : Int) (A : Option Addr) (n c m : Nat) (A1 : Option Addr) (n1 c1 : Nat) (p : Int) (w : World) :
  CallsIn Fence.wide 9 Tryd.prog 64 #[.agg #[.int .i64 T, .int .i64 O, .int .i64 L, .slice A n c, .map (some m), .slice A1 n1 c1], .int .i64 p] w fun e w' => e = .returned (.func (.func 85) #[] #[.pointer (some ⟨w.heap.size, 0, none⟩), .pointer (some ⟨w.heap.size + 1, 0, none⟩)]) ∧
   w' = (w.alloc (.cells #[.int .i64 T, .int .i64 O, .int .i64 L, .slice A n c, .map (some m), .slice A1 n1 c1] 92)).alloc (.cells #[.int .i64 p] 3) := by
 have hu92 := Tryd.underlying92
 refine callsIn_of_wp Tryd.func64 rfl trivial ?_ rfl
 simp only [Tryd.ntmps64, List.size_toArray, List.length_cons, List.length_nil, Nat.reduceAdd, Nat.reduceSub, Array.replicate_succ, Array.replicate_zero, List.push_toArray, List.append_toArray, List.nil_append, List.cons_append]
 gi_wp2
 go_ret
 exact ⟨rfl, rfl⟩
theorem round_any {m : Nat} (m' : Nat) {P : Program} {l l' : Nat} {fn : FuncId} {tmps : Array Value} {assign body : Code} {W : World} {Q : Ending → World → Prop} (h : RoundIn Fence.wide m P l fn tmps assign body W Q) : RoundIn (Fence.wide.inRound l') m' P l fn tmps assign body W Q := ⟨h.1, fun c cs _ => h.2 c cs (room_wide _)⟩
theorem KR.keeps {T : Int} {R : List S66} {m B : Nat} {S : Nat → Prop} {A C : World} (h : KR T R m S A C) (hS : ∀ i, B ≤ i → i < A.heap.size → S i) (hm : m < B) : KeepsFrom B A C :=
 ⟨h.size, fun k o hk ho _ => h.at ho (hS k hk (blk_lt ho)) (by omega)⟩
def fFits.T3 : Bool × List (List Nat × List Nat) := (true, [([], []), ([], []), ([], []), ([], []), ([0, 1, 2, 3, 3], [0, 1, 2, 3]), ([4], [4])])
def fFits.B3 : List Nat := [0, 0, 0, 0, 15, 31]
theorem fFits.tab3 : rtab .any (opsOf Tryd.f85 3) = fFits.T3 := by kernel_rfl
theorem fFits.bits3 : waitsOk fFits.T3.2 fFits.B3 = true := by kernel_rfl
set_option maxRecDepth 100000 in
set_option maxHeartbeats 4000000 in
theorem fits_seq (T O L : Int) (A : Option Addr) (R : List S66) (c m : Nat) (A1 : Option Addr) (c1 : Nat) (hs : List S60) (p N B B1 : Nat) (S : Nat → Prop) (w0 w : World) (hx : Ctx w0 w T A R m) (hl : Kd.C k60 w0 A1 hs.length hs) (hh : okHeard L R hs = true) (hL : 2 ≤ L) (hL' : L ≤ 16) (hp : (p : Int) < L / 2)
  (hB : w.heap[B]? = some (.cells #[.int .i64 T, .int .i64 O, .int .i64 L, .slice A R.length c, .map (some m), .slice A1 hs.length c1] 92 (0, 0))) (hB1 : w.heap[B1]? = some (.cells #[.int .i64 (p : Int)] 3 (0, 0))) (hSB : S B) (hSB1 : S B1) (hS0 : ∀ i, i < w0.heap.size → S i) (hS : ∀ i, S i → i < w.heap.size)
  (hN : T * O = (N : Int)) (hN' : N ≤ 100) :
  SeqM 85 #[.pointer (some ⟨B, 0, none⟩), .pointer (some ⟨B1, 0, none⟩)] encP (OkP N) T R m S (choices T O R hs (p : Int)) w := by
 intro l J Jx W hW hJ hJx hY h0
 have hu78 := Tryd.underlying78
 have hu84 := Tryd.underlying84
 have hu92 := Tryd.underlying92
 have hBm : B ≠ m := by rintro rfl; exact hx.memo.no_cells hB
 have hB1m : B1 ≠ m := by rintro rfl; exact hx.memo.no_cells hB1
 have XW := zh (hW.ctx hx hS0)
 have HBW := zh (hW.at hB hSB hBm)
 have HB1W := zh (hW.at hB1 hSB1 hB1m)
 have HY := zh hY
 have HJ := zh hJ
 have HJx := zh hJx
 have H0 := zh h0
 have HL := zh hl
 have HH := zh hh
 have HSw := zh (show ∀ i, S i → i < W.heap.size from fun i hi => Nat.lt_of_lt_of_le (hS i hi) hW.size)
 have HS0 := zh hS0
 have hmW := XW.out.memo.lt
 have t0 : W.cell? ⟨B, 0, none⟩ = some (.int .i64 T) := vb HBW 0
 have t1 : W.cell? ⟨B, 1, none⟩ = some (.int .i64 O) := vb HBW 1
 have t2 : W.cell? ⟨B, 2, none⟩ = some (.int .i64 L) := vb HBW 2
 have t3 : W.cell? ⟨B, 3, none⟩ = some (.slice A R.length c) := vb HBW 3
 have t4 : W.cell? ⟨B, 4, none⟩ = some (.map (some m)) := vb HBW 4
 replace t0 := cell_a1 t0 (.cells #[.func (.yield l) #[] #[]] 121)
 replace t1 := cell_a1 t1 (.cells #[.func (.yield l) #[] #[]] 121)
 replace t2 := cell_a1 t2 (.cells #[.func (.yield l) #[] #[]] 121)
 replace t3 := cell_a1 t3 (.cells #[.func (.yield l) #[] #[]] 121)
 replace t4 := cell_a1 t4 (.cells #[.func (.yield l) #[] #[]] 121)
 clear hx hW hB hB1 hY hJ hJx h0 hl hh hS0
 refine callsIn_of_wp_marks Tryd.func85 rfl trivial ?_ rfl
 simp only [Tryd.ntmps85, List.size_toArray, List.length_cons, List.length_nil, Nat.reduceAdd, Nat.reduceSub, Array.replicate_succ, Array.replicate_zero, List.push_toArray, List.append_toArray, List.nil_append, List.cons_append]
 gi_wp2
 refine wpIn_wide.2 (wp_scope_straight ((wpIn_wide (n := 9)).1 ?_))
 gi_wp2
 refine wpIn_label ?_
 gi_wp2_with (refine ⟨trivial, ?_⟩; gi_at_call 75; refine (callsIn_any _ (all_calls T O L A R.length c m _)).mono ?_; rintro e w' ⟨rfl, rfl⟩)
 clear t0 t1 t2 t3 t4
 have HB78 := zh (alloc_at (W.alloc (.cells #[.func (.yield l) #[] #[]] 121)) (.cells #[.int .i64 T, .int .i64 O, .int .i64 L, .slice A R.length c, .map (some m)] 78) (W.heap.size + 1) (by simp))
 have HY121 := zh (blk_alloc (alloc_at W (.cells #[.func (.yield l) #[] #[]] 121) W.heap.size rfl) (.cells #[.int .i64 T, .int .i64 O, .int .i64 L, .slice A R.length c, .map (some m)] 78))
 have HKB := zh ((KB.alloc T R m W (.cells #[.func (.yield l) #[] #[]] 121)).trans (KB.alloc T R m (W.alloc (.cells #[.func (.yield l) #[] #[]] 121)) (.cells #[.int .i64 T, .int .i64 O, .int .i64 L, .slice A R.length c, .map (some m)] 78)))
 have hsz : ((W.alloc (.cells #[.func (.yield l) #[] #[]] 121)).alloc (.cells #[.int .i64 T, .int .i64 O, .int .i64 L, .slice A R.length c, .map (some m)] 78)).heap.size = W.heap.size + 2 := by simp
 obtain ⟨W0, hW0⟩ : ∃ W0, (W.alloc (.cells #[.func (.yield l) #[] #[]] 121)).alloc (.cells #[.int .i64 T, .int .i64 O, .int .i64 L, .slice A R.length c, .map (some m)] 78) = W0 := ⟨_, rfl⟩
 rw [hW0] at HB78 HY121 HKB hsz ⊢
 clear hW0
 have XC0 := zh (((HKB.out.round (fun i => S i ∨ (W.heap.size ≤ i ∧ i < W0.heap.size))).ctx XW.out (fun i hi => .inl (HS0.out i hi))))
 have HB0 := zh (HKB.out.at HBW.out hBm)
 have HB10 := zh (HKB.out.at HB1W.out hB1m)
 have hBlt := blk_lt HBW.out
 have hB1lt := blk_lt HB1W.out
 refine wpIn_range (n := 9) (by omega) (gf := 88) (lb := #[.pointer (some ⟨W.heap.size + 1, 0, none⟩)]) rfl (enters_of Tryd.func88 zk rfl)
  (all_seq T O L A R c m (W.heap.size + 1) N (fun i => S i ∨ (W.heap.size ≤ i ∧ i < W0.heap.size)) W0 HB78.out (.inr ⟨by omega, by omega⟩) (by omega) hN hN') (fun i hi => by rcases hi with hi | hi; exact Nat.lt_of_lt_of_le (HSw.out i hi) (by omega); omega) (by omega) (fun _ => rfl)
  (fun pre Wx => J (pre.filter (fitP T R hs p)) Wx ∧ KR T R m (fun i => S i ∨ (W.heap.size ≤ i ∧ i < W0.heap.size)) W0 Wx)
  (fun c pre Wx => c = .ret ∧ Jx (pre.filter (fitP T R hs p)) Wx)
  (fun s X Y h hk => ⟨HJ.out _ _ _ h.1 (hk.mono (by omega)), h.2.weak hk (fun i _ hi => hi)⟩)
  (fun c s X Y h hk => ⟨h.1, HJx.out _ _ _ h.2 (hk.mono (by omega))⟩)
  ⟨HJ.out _ _ _ H0.out (HKB.out.weak _), KR.refl _ _ _ _ _⟩
  (fun x a' Wx => ∃ g, g ≠ m ∧ Wx.heap[g]? = some (.cells #[.int .i64 x.1, .int .i64 x.2] 84 (0, 0)) ∧ a' = { tmps := #[.func (.yield l) #[] #[], .pointer (some ⟨B, 0, none⟩), .pointer (some ⟨B1, 0, none⟩), .pointer (some ⟨W.heap.size, 0, none⟩), .pointer (some ⟨g, 0, none⟩), .pointer (some ⟨B, 0, none⟩), .agg #[.int .i64 T, .int .i64 O, .int .i64 L, .slice A R.length c, .map (some m)], .func (.func 88) #[] #[.pointer (some ⟨W.heap.size + 1, 0, none⟩)], .agg #[.int .i64 x.1, .int .i64 x.2], undef, undef, undef, undef, undef, undef, undef, undef, undef, undef], defers := [] })
  (fun x a' X Y h hk => by obtain ⟨g, hgm, hg, e⟩ := h; exact ⟨g, hgm, hk.block g _ hg hgm (.inr rfl), e⟩)
  ?assign ?body ?done ?stop
 case assign =>
  rintro l2 pre x Wx K ⟨hJ1, hK1⟩ hK
  dsimp only [encP]
  gi_wp2
  exact hK _ _ ((KeepsOthers.alloc _ _).from _) ((KB.alloc T R m Wx _).round _) ⟨HJ.out _ _ _ hJ1 ((KB.alloc T R m Wx _).weak _), hK1.step (KB.alloc T R m Wx _)⟩ ⟨Wx.heap.size, by have := (hK1.size); omega, heap_alloc_new Wx _, rfl⟩
 case body =>
  rintro l2 pre ⟨xa, xb⟩ a' Wx hl2 hok hpre ⟨hJ1, hK1⟩ ⟨g, hgm, hg, rfl⟩
  obtain ⟨oa, oa', ob, ob'⟩ := hok
  dsimp only at oa oa' ob ob' hg ⊢
  have XCx := zh (hK1.ctx XC0.out (fun i hi => .inl (HS0.out i hi)))
  have Bx := zh (hK1.at HB0.out (.inl hSB) hBm)
  have B1x := zh (hK1.at HB10.out (.inl hSB1) hB1m)
  have Yx := zh (hK1.at HY121.out (.inr ⟨Nat.le_refl _, by omega⟩) (by omega))
  have Gx := zh hg
  have HGm := zh hgm
  have HJ1 := zh hJ1
  have HK1 := zh hK1
  have hxa : xa ≤ 100 := by omega
  have hxb : xb ≤ 100 := by omega
  clear hJ1 hK1 hg
  by_cases hz : miss T R hs (p : Int) xa xb = 0
  ·have hz' : ¬ (0 : Int) < (miss T R hs (p : Int) xa xb : Int) := by omega
   have HF := zh (show (pre ++ [(xa, xb)]).filter (fitP T R hs p) = pre.filter (fitP T R hs p) ++ [(xa, xb)] by rw [List.filter_append]; simp [fitP, hz])
   have HP := zh (show (pre.filter (fitP T R hs p) ++ [(xa, xb)]) <+: choices T O R hs (p : Int) by rw [← HF.out]; exact choices_ok hN hpre)
   gi_wp2
   have KB2 := zh (KB.of_below (T := T) (R := R) (m := m) (below_drew1 (Below.refl Wx.heap.size Wx)))
   have XC2 := zh (XCx.out.below (below_drew1 (Below.refl Wx.heap.size Wx)))
   have B2 := zh (show Wx.drew.heap[B]? = _ from Bx.out)
   have B12 := zh (show Wx.drew.heap[B1]? = _ from B1x.out)
   have G2 := zh (show Wx.drew.heap[g]? = _ from Gx.out)
   refine start_in (n := 6) (S := fun w' => w'.cell? ⟨B, 0, none⟩ = some (.int .i64 T) ∧ w'.cell? ⟨B, 1, none⟩ = some (.int .i64 O) ∧ w'.cell? ⟨B, 2, none⟩ = some (.int .i64 L) ∧ w'.cell? ⟨B, 3, none⟩ = some (.slice A R.length c) ∧ w'.cell? ⟨B, 4, none⟩ = some (.map (some m)) ∧ w'.cell? ⟨B, 5, none⟩ = some (.slice A1 hs.length c1) ∧ w'.cell? ⟨B1, 0, none⟩ = some (.int .i64 (p : Int)) ∧ w'.cell? ⟨g, 0, none⟩ = some (.int .i64 xa) ∧ w'.cell? ⟨g, 1, none⟩ = some (.int .i64 xb)) (ds := []) #[false, false, false, false, false, false] zk rfl rfl zk dQ12 ⟨vb B2 0, vb B2 1, vb B2 2, vb B2 3, vb B2 4, vb B2 5, vb B12 0, vb G2 0, vb G2 1⟩ (fun hHeld => ?_)
   refine with_tabW fFits.tab3 fFits.bits3 (fun HT_ HW_ => ?_)
   generalize Wx.drew = W2 at KB2 XC2 B2 B12 G2 hHeld ⊢
   refine zt 0 ?_
   refine zt 1 ?_
   refine zt 2 ?_
   refine zo 3 (fun K hK => ?_)
   refine goes_ Tryd.func74 zk rfl #[] (by rfl) rfl rfl (by simp) ?_
   with_reducible refine (otherwise_calls _).mono ?_
   rintro e w6 ⟨rfl, hb6⟩
   refine ⟨_, rfl, ?_⟩
   have KB6 := zh (KB2.out.trans (KB.of_below (T := T) (R := R) (m := m) hb6))
   have XC6 := zh (XC2.out.below hb6)
   have B6 := zh (blk_below B2.out hb6)
   have B16 := zh (blk_below B12.out hb6)
   have G6 := zh (blk_below G2.out hb6)
   clear hb6
   refine hK.out _ _ ⟨vb B6 0, vb B6 1, vb B6 2, vb B6 3, vb B6 4, vb B6 5, vb B16 0, vb G6 0, vb G6 1⟩ (fun hHeld => ?_)
   clear hK K
   refine zr 12 _ ?_
   refine zo 4 (fun K hK => ?_)
   refine goes_ Tryd.func73 zk rfl #[.agg #[.int .i64 T, .int .i64 O, .int .i64 L, .slice A R.length c, .map (some m), .slice A1 hs.length c1], .int .i64 (p : Int), .agg #[.int .i64 xa, .int .i64 xb], .agg #[.func (.func 87) #[] #[]]] (by rfl) rfl rfl dQ5 ?_
   with_reducible refine (counted_calls T O L A R c m A1 c1 hs p xa xb w0 _ XC6.out HL.out HH.out hL hL' hp oa hxa ob hxb).mono ?_
   rintro e w7 ⟨rfl, hm7, hk7⟩
   refine ⟨_, rfl, ?_⟩
   have KB7 := zh (KB6.out.trans ⟨hk7, fun _ => hm7⟩)
   have B7 := zh ((hk7.block _ (blk_lt B6.out) hBm).trans B6.out)
   have B17 := zh ((hk7.block _ (blk_lt B16.out) hB1m).trans B16.out)
   have G7 := zh ((hk7.block _ (blk_lt G6.out) HGm.out).trans G6.out)
   clear hm7 hk7
   refine hK.out _ _ ⟨vb B7 0, vb B7 1, vb B7 2, vb B7 3, vb B7 4, vb B7 5, vb B17 0, vb G7 0, vb G7 1⟩ (fun hHeld => ?_)
   clear hK K
   refine zr 13 _ ?_
   refine zu 5 ?_
   refine zd ?_
   have e9 : w7.cell? ⟨W.heap.size, 0, none⟩ = some (.func (.yield l) #[] #[]) := (blk_cell (KB7.out.at Yx.out (by omega)) 0).trans rfl
   have e10 : w7.cell? ⟨g, 0, none⟩ = some (.int .i64 xa) := vb G7 0
   have e11 : w7.cell? ⟨g, 1, none⟩ = some (.int .i64 xb) := vb G7 1
   obtain ⟨fn, tmps, assign, body, hy, hR⟩ := HY.out (pre.filter (fitP T R hs p)) (xa, xb) w7 ⟨oa, oa', ob, ob'⟩ HP.out (HJ.out _ _ _ HJ1.out (KB7.out.weak _))
   dsimp only [encP] at hy
   have HR7 := zh hR
   clear hR
   (try gi_wp2)
   refine (round_any _ HR7.out).mono ?_
   rintro e W3 (⟨rfl, hJ4, hk4⟩ | ⟨rfl, hJx4, hk4⟩)
   all_goals have HK4 := zh ((KB7.out.round _).trans hk4)
   all_goals clear hk4
   all_goals gi_wp2
   all_goals exact ⟨HK4.out.keeps (fun i hi _ => .inr (by omega)) (by omega), HK4.out.mono (fun i hi _ => by rcases hi with (hi | hi) | hi; exact .inl hi; exact .inr hi.1; exact .inr (by omega)), by first | (dsimp only; rw [HF.out]; exact ⟨hJ4, HK1.out.trans (HK4.out.mono (fun i hi _ => by rcases hi with hi | hi; exact .inl hi; exact .inr hi.1))⟩) | (dsimp only; rw [HF.out]; exact ⟨rfl, hJx4⟩)⟩
  ·have hz' : (0 : Int) < (miss T R hs (p : Int) xa xb : Int) := by omega
   have HF := zh (show (pre ++ [(xa, xb)]).filter (fitP T R hs p) = pre.filter (fitP T R hs p) by rw [List.filter_append]; simp [fitP, hz])
   gi_wp2
   have KB2 := zh (KB.of_below (T := T) (R := R) (m := m) (below_drew1 (Below.refl Wx.heap.size Wx)))
   have XC2 := zh (XCx.out.below (below_drew1 (Below.refl Wx.heap.size Wx)))
   have B2 := zh (show Wx.drew.heap[B]? = _ from Bx.out)
   have B12 := zh (show Wx.drew.heap[B1]? = _ from B1x.out)
   have G2 := zh (show Wx.drew.heap[g]? = _ from Gx.out)
   refine start_in (n := 6) (S := fun w' => w'.cell? ⟨B, 0, none⟩ = some (.int .i64 T) ∧ w'.cell? ⟨B, 1, none⟩ = some (.int .i64 O) ∧ w'.cell? ⟨B, 2, none⟩ = some (.int .i64 L) ∧ w'.cell? ⟨B, 3, none⟩ = some (.slice A R.length c) ∧ w'.cell? ⟨B, 4, none⟩ = some (.map (some m)) ∧ w'.cell? ⟨B, 5, none⟩ = some (.slice A1 hs.length c1) ∧ w'.cell? ⟨B1, 0, none⟩ = some (.int .i64 (p : Int)) ∧ w'.cell? ⟨g, 0, none⟩ = some (.int .i64 xa) ∧ w'.cell? ⟨g, 1, none⟩ = some (.int .i64 xb)) (ds := []) #[false, false, false, false, false, false] zk rfl rfl zk dQ12 ⟨vb B2 0, vb B2 1, vb B2 2, vb B2 3, vb B2 4, vb B2 5, vb B12 0, vb G2 0, vb G2 1⟩ (fun hHeld => ?_)
   refine with_tabW fFits.tab3 fFits.bits3 (fun HT_ HW_ => ?_)
   generalize Wx.drew = W2 at KB2 XC2 B2 B12 G2 hHeld ⊢
   refine zt 0 ?_
   refine zt 1 ?_
   refine zt 2 ?_
   refine zo 3 (fun K hK => ?_)
   refine goes_ Tryd.func74 zk rfl #[] (by rfl) rfl rfl (by simp) ?_
   with_reducible refine (otherwise_calls _).mono ?_
   rintro e w6 ⟨rfl, hb6⟩
   refine ⟨_, rfl, ?_⟩
   have KB6 := zh (KB2.out.trans (KB.of_below (T := T) (R := R) (m := m) hb6))
   have XC6 := zh (XC2.out.below hb6)
   have B6 := zh (blk_below B2.out hb6)
   have B16 := zh (blk_below B12.out hb6)
   have G6 := zh (blk_below G2.out hb6)
   clear hb6
   refine hK.out _ _ ⟨vb B6 0, vb B6 1, vb B6 2, vb B6 3, vb B6 4, vb B6 5, vb B16 0, vb G6 0, vb G6 1⟩ (fun hHeld => ?_)
   clear hK K
   refine zr 12 _ ?_
   refine zo 4 (fun K hK => ?_)
   refine goes_ Tryd.func73 zk rfl #[.agg #[.int .i64 T, .int .i64 O, .int .i64 L, .slice A R.length c, .map (some m), .slice A1 hs.length c1], .int .i64 (p : Int), .agg #[.int .i64 xa, .int .i64 xb], .agg #[.func (.func 87) #[] #[]]] (by rfl) rfl rfl dQ5 ?_
   with_reducible refine (counted_calls T O L A R c m A1 c1 hs p xa xb w0 _ XC6.out HL.out HH.out hL hL' hp oa hxa ob hxb).mono ?_
   rintro e w7 ⟨rfl, hm7, hk7⟩
   refine ⟨_, rfl, ?_⟩
   have KB7 := zh (KB6.out.trans ⟨hk7, fun _ => hm7⟩)
   have B7 := zh ((hk7.block _ (blk_lt B6.out) hBm).trans B6.out)
   have B17 := zh ((hk7.block _ (blk_lt B16.out) hB1m).trans B16.out)
   have G7 := zh ((hk7.block _ (blk_lt G6.out) HGm.out).trans G6.out)
   clear hm7 hk7
   refine hK.out _ _ ⟨vb B7 0, vb B7 1, vb B7 2, vb B7 3, vb B7 4, vb B7 5, vb B17 0, vb G7 0, vb G7 1⟩ (fun hHeld => ?_)
   clear hK K
   refine zr 13 _ ?_
   refine zu 5 ?_
   refine zd ?_
   (try gi_wp2)
   exact ⟨(KB7.out.round (fun _ => True)).keeps (fun _ _ _ => trivial) (by omega), KB7.out.round _, by dsimp only; rw [HF.out]; exact ⟨HJ.out _ _ _ HJ1.out (KB7.out.weak _), HK1.out.step KB7.out⟩⟩
 case done =>
  rintro D Wx hD ⟨hJ1, hK1⟩ hKd
  gi_wp2
  refine ⟨by simp, .inl ⟨_, _, rfl, run_takeDeferred hKd, ?_⟩⟩
  exact ⟨_, results_none rfl _ _ _, ⟨_, rfl⟩, .inl (by rw [choices_filter T O R hs p N hN]; exact HJ.out _ _ _ hJ1 (KM.put T R _ hKd rfl (by omega) (by omega)))⟩
 case stop =>
  rintro D c pre Wx hD hpre ⟨rfl, hJ1⟩ hKd
  gi_wp2
  refine ⟨by simp, .inl ⟨_, _, rfl, run_takeDeferred hKd, ?_⟩⟩
  exact ⟨_, results_none rfl _ _ _, ⟨_, rfl⟩, .inr ⟨_, choices_ok hN hpre, HJx.out _ _ _ hJ1 (KM.put T R _ hKd rfl (by omega) (by omega))⟩⟩
end Go.Proofs.YtagkfkdoibnhfaaDoor.K
end
section
namespace Go.Proofs.YtagkfkdoibnhfaaDoor.K
open Go.RowKit Go.Shelf Go.Proofs.YtagkfkdoibnhfaaDoorW.PrintWords Go.Proofs.YtagkfkdoibnhfaaDoorW.PrintLast Go.Proofs.YtagkfkdoibnhfaaDoorW.PrintMore Go.Proofs.YtagkfkdoibnhfaaDoor.H
set_option linter.unusedVariables false
set_option linter.unusedSimpArgs false
attribute [local go_sem] Oper.semAt_some
theorem KR.kbs {T : Int} {R : List S66} {m : Nat} {S : Nat → Prop} {A B C : World} (hb : KB T R m A B) (h : KR T R m S B C) (hS : ∀ i, i < A.heap.size → S i) : KB T R m A C :=
 ⟨⟨h.os.trans hb.kp.os, h.tape.trans hb.kp.tape, h.output.trans hb.kp.output, Nat.le_trans hb.kp.size h.size, fun i hi hm => (h.block i (hS i hi) (Nat.lt_of_lt_of_le hi hb.kp.size) hm).trans (hb.kp.block i hi hm)⟩, fun x => h.memo (hb.memo x)⟩
theorem KB.ctx {T : Int} {A : Option Addr} {R : List S66} {m : Nat} {w0 w W : World} (h : KB T R m w W) (hx : Ctx w0 w T A R m) : Ctx w0 W T A R m := hx.step h.kp (h.memo hx.memo)
theorem KM.box {T : Int} {R : List S66} {m n : Nat} {A B : World} (h : KM T R m n A B) {k : Nat} {t : TypeId} {v : Value} (hk : Boxed A k t v) (hne : k ≠ m) : Boxed B k t v := h.cells hk hne
theorem KB.box {T : Int} {R : List S66} {m : Nat} {A B : World} (h : KB T R m A B) {k : Nat} {t : TypeId} {v : Value} (hk : Boxed A k t v) (hne : k ≠ m) : Boxed B k t v := h.at hk hne
def canFrom (T O : Int) (R : List S66) (hs : List S60) (n k : Nat) : Bool := (List.range (n - k)).all fun i => !(choices T O R hs ((k + i : Nat) : Int)).isEmpty
theorem canFrom_end (T O : Int) (R : List S66) (hs : List S60) (n : Nat) : canFrom T O R hs n n = true := by simp [canFrom]
theorem canFrom_step (T O : Int) (R : List S66) (hs : List S60) (n k : Nat) (h : k < n) : canFrom T O R hs n k = (!(choices T O R hs (k : Int)).isEmpty && canFrom T O R hs n (k + 1)) := by
 unfold canFrom
 rw [show n - k = (n - (k + 1)) + 1 from by omega, List.range_succ_eq_map]
 simp only [List.all_cons, Nat.add_zero, List.all_map]
 congr 1
 refine congrArg (fun f => List.all _ f) (funext fun i => ?_)
 simp only [Function.comp_apply]
 rw [show k + Nat.succ i = k + 1 + i from by omega]
theorem canFrom_all (T O L : Int) (R : List S66) (hs : List S60) (n : Nat) (h : L / 2 = (n : Int)) : canFrom T O R hs n 0 = canAll T O L R hs := by
 unfold canFrom canAll irange
 rw [h, show ((n : Int) - 1 + 1 - 0).toNat = n from by omega, List.all_map]
 simp
 rfl
set_option maxRecDepth 100000 in
set_option maxHeartbeats 4000000 in
theorem can1_calls (T O L : Int) (A : Option Addr) (R : List S66) (c m : Nat) (A1 : Option Addr) (c1 : Nat) (hs : List S60) (n N B F : Nat) (w0 : World) (hl : Kd.C k60 w0 A1 hs.length hs) (hh : okHeard L R hs = true) (hL : 2 ≤ L) (hL' : L ≤ 16) (hn : L / 2 = (n : Int)) (hN : T * O = (N : Int)) (hN' : N ≤ 100) :
  ∀ (d k : Nat), k + d = n → ∀ W, Ctx w0 W T A R m → W.heap[B]? = some (.cells #[.int .i64 T, .int .i64 O, .int .i64 L, .slice A R.length c, .map (some m), .slice A1 hs.length c1] 92 (0, 0)) → W.heap[F]? = some (.cells #[.func (.func 84) #[] #[.pointer (some ⟨B, 0, none⟩), .pointer (some ⟨F, 0, none⟩)]] 120 (0, 0)) →
   CallsIn Fence.wide 9 Tryd.prog 84 #[.int .i64 (k : Int), .pointer (some ⟨B, 0, none⟩), .pointer (some ⟨F, 0, none⟩)] W fun e W' => e = .returned (.bool (canFrom T O R hs n k)) ∧ KB T R m W W'
 | 0, k, hk, W, hx, hB, hF => by
  obtain rfl : k = n := by omega
  have hu92 := Tryd.underlying92
  have hu78 := Tryd.underlying78
  have hu24 := Tryd.underlying24
  have z2 : W.cell? ⟨B, 2, none⟩ = some (.int .i64 L) := (blk_cell hB 2).trans rfl
  replace z2 := cell_a2 z2 (.cells #[.int .i64 (k : Int)] 3) (.cells #[.bool false] 4)
  have hw : wrap64 (L.tdiv 2) = (k : Int) := by rw [Int.tdiv_eq_ediv_of_nonneg (by omega), hn]; exact w64 (by omega) (by omega)
  have HK := zh ((KB.alloc T R m W (.cells #[.int .i64 (k : Int)] 3)).trans (KB.alloc T R m (W.alloc (.cells #[.int .i64 (k : Int)] 3)) (.cells #[.bool false] 4)))
  have hmlt := hx.memo.lt
  clear hB hF hx
  refine callsIn_of_wp_marks Tryd.func84 rfl trivial ?_ rfl
  simp only [Tryd.ntmps84, List.size_toArray, List.length_cons, List.length_nil, Nat.reduceAdd, Nat.reduceSub, Array.replicate_succ, Array.replicate_zero, List.push_toArray, List.append_toArray, List.nil_append, List.cons_append]
  gi_wp2
  refine ⟨.bool true, by simp [results, Tryd.results84, go_sem], by rw [canFrom_end], (KB.alloc T R m W (.cells #[.int .i64 (k : Int)] 3)).trans (KB.alloc T R m (W.alloc (.cells #[.int .i64 (k : Int)] 3)) (.cells #[.bool true] 4))⟩
 | d + 1, k, hk, W, hx, hB, hF => by
  have ih := can1_calls T O L A R c m A1 c1 hs n N B F w0 hl hh hL hL' hn hN hN' d (k + 1) (by omega)
  have IH := zh ih
  have hu92 := Tryd.underlying92
  have hu78 := Tryd.underlying78
  have hu24 := Tryd.underlying24
  have z0 : W.cell? ⟨B, 0, none⟩ = some (.int .i64 T) := (blk_cell hB 0).trans rfl
  have z1 : W.cell? ⟨B, 1, none⟩ = some (.int .i64 O) := (blk_cell hB 1).trans rfl
  have z2 : W.cell? ⟨B, 2, none⟩ = some (.int .i64 L) := (blk_cell hB 2).trans rfl
  have z3 : W.cell? ⟨B, 3, none⟩ = some (.slice A R.length c) := (blk_cell hB 3).trans rfl
  have z4 : W.cell? ⟨B, 4, none⟩ = some (.map (some m)) := (blk_cell hB 4).trans rfl
  have z5 : W.cell? ⟨B, 5, none⟩ = some (.slice A1 hs.length c1) := (blk_cell hB 5).trans rfl
  replace z0 := cell_a2 z0 (.cells #[.int .i64 (k : Int)] 3) (.cells #[.bool false] 4)
  replace z1 := cell_a2 z1 (.cells #[.int .i64 (k : Int)] 3) (.cells #[.bool false] 4)
  replace z2 := cell_a2 z2 (.cells #[.int .i64 (k : Int)] 3) (.cells #[.bool false] 4)
  replace z3 := cell_a2 z3 (.cells #[.int .i64 (k : Int)] 3) (.cells #[.bool false] 4)
  replace z4 := cell_a2 z4 (.cells #[.int .i64 (k : Int)] 3) (.cells #[.bool false] 4)
  replace z5 := cell_a2 z5 (.cells #[.int .i64 (k : Int)] 3) (.cells #[.bool false] 4)
  have hw : wrap64 (L.tdiv 2) = (n : Int) := by rw [Int.tdiv_eq_ediv_of_nonneg (by omega), hn]; exact w64 (by omega) (by omega)
  have hne : ((k : Int) == L / 2) = false := beq_eq_false_iff_ne.2 (by omega)
  have hkn : k < n := by omega
  have hmlt := hx.memo.lt
  have hBm : B ≠ m := by rintro rfl; exact hx.memo.no_cells hB
  have hFm : F ≠ m := by rintro rfl; exact hx.memo.no_cells hF
  have HB := zh hB
  have HF := zh hF
  have X := zh hx
  have HCS := zh (canFrom_step T O R hs n k hkn)
  clear hB hF hx ih
  refine callsIn_of_wp_marks Tryd.func84 rfl trivial ?_ rfl
  simp only [Tryd.ntmps84, List.size_toArray, List.length_cons, List.length_nil, Nat.reduceAdd, Nat.reduceSub, Array.replicate_succ, Array.replicate_zero, List.push_toArray, List.append_toArray, List.nil_append, List.cons_append]
  gi_wp2_with (refine ⟨trivial, ?_⟩; gi_at_call 64; refine (callsIn_any _ (fits_calls T O L A R.length c m A1 hs.length c1 (k : Int) _)).mono ?_; rintro e w' ⟨rfl, rfl⟩)
  clear z0 z1 z2 z3 z4 z5
  have K1 := zh ((((KB.alloc T R m W (.cells #[.int .i64 (k : Int)] 3)).trans (KB.alloc T R m (W.alloc (.cells #[.int .i64 (k : Int)] 3)) (.cells #[.bool false] 4))).trans (KB.alloc T R m ((W.alloc (.cells #[.int .i64 (k : Int)] 3)).alloc (.cells #[.bool false] 4)) (.cells #[.int .i64 T, .int .i64 O, .int .i64 L, .slice A R.length c, .map (some m), .slice A1 hs.length c1] 92))).trans (KB.alloc T R m (((W.alloc (.cells #[.int .i64 (k : Int)] 3)).alloc (.cells #[.bool false] 4)).alloc (.cells #[.int .i64 T, .int .i64 O, .int .i64 L, .slice A R.length c, .map (some m), .slice A1 hs.length c1] 92)) (.cells #[.int .i64 (k : Int)] 3)))
  have b4 : Boxed ((((W.alloc (.cells #[.int .i64 (k : Int)] 3)).alloc (.cells #[.bool false] 4)).alloc (.cells #[.int .i64 T, .int .i64 O, .int .i64 L, .slice A R.length c, .map (some m), .slice A1 hs.length c1] 92)).alloc (.cells #[.int .i64 (k : Int)] 3)) (W.heap.size + 1) 4 (.bool false) := blk_alloc (blk_alloc (alloc_at _ _ _ (by simp)) _) _
  have b92 := zh (blk_alloc (alloc_at ((W.alloc (.cells #[.int .i64 (k : Int)] 3)).alloc (.cells #[.bool false] 4)) (.cells #[.int .i64 T, .int .i64 O, .int .i64 L, .slice A R.length c, .map (some m), .slice A1 hs.length c1] 92) (W.heap.size + 1 + 1) (by simp)) (.cells #[.int .i64 (k : Int)] 3))
  have b3 := zh (alloc_at (((W.alloc (.cells #[.int .i64 (k : Int)] 3)).alloc (.cells #[.bool false] 4)).alloc (.cells #[.int .i64 T, .int .i64 O, .int .i64 L, .slice A R.length c, .map (some m), .slice A1 hs.length c1] 92)) (.cells #[.int .i64 (k : Int)] 3) (W.heap.size + 1 + 1 + 1) (by simp))
  have hsz : ((((W.alloc (.cells #[.int .i64 (k : Int)] 3)).alloc (.cells #[.bool false] 4)).alloc (.cells #[.int .i64 T, .int .i64 O, .int .i64 L, .slice A R.length c, .map (some m), .slice A1 hs.length c1] 92)).alloc (.cells #[.int .i64 (k : Int)] 3)).heap.size = W.heap.size + 4 := by simp
  have P0 := zh (blk_alloc (blk_alloc (blk_alloc (alloc_at W (.cells #[.int .i64 (k : Int)] 3) W.heap.size rfl) (.cells #[.bool false] 4)) (.cells #[.int .i64 T, .int .i64 O, .int .i64 L, .slice A R.length c, .map (some m), .slice A1 hs.length c1] 92)) (.cells #[.int .i64 (k : Int)] 3))
  obtain ⟨W0, hW0⟩ : ∃ W0, ((((W.alloc (.cells #[.int .i64 (k : Int)] 3)).alloc (.cells #[.bool false] 4)).alloc (.cells #[.int .i64 T, .int .i64 O, .int .i64 L, .slice A R.length c, .map (some m), .slice A1 hs.length c1] 92)).alloc (.cells #[.int .i64 (k : Int)] 3)) = W0 := ⟨_, rfl⟩
  simp only [hW0] at K1 b4 b92 b3 P0 hsz ⊢
  clear hW0
  have X0 := zh (K1.out.ctx X.out)
  have hw0 := X.out.base.size
  have hBlt := blk_lt HB.out
  have hFlt := blk_lt HF.out
  refine wpIn_range (n := 9) (by omega) (gf := 85) (lb := #[.pointer (some ⟨W.heap.size + 1 + 1, 0, none⟩), .pointer (some ⟨W.heap.size + 1 + 1 + 1, 0, none⟩)]) rfl (enters_of Tryd.func85 zk rfl)
   (fits_seq T O L A R c m A1 c1 hs k N (W.heap.size + 1 + 1) (W.heap.size + 1 + 1 + 1) (fun i => i < W0.heap.size ∧ i ≠ W.heap.size + 1) w0 W0 X0.out hl hh hL hL' (by omega) b92.out b3.out ⟨by omega, by omega⟩ ⟨by omega, by omega⟩ (fun i hi => ⟨by omega, by omega⟩) (fun i hi => hi.1) hN hN') (fun i hi => hi.1) (by omega) (fun _ => rfl)
   (fun pre Wx => pre = [] ∧ KR T R m (fun i => i < W0.heap.size ∧ i ≠ W.heap.size + 1) W0 Wx ∧ Boxed Wx (W.heap.size + 1) 4 (.bool false))
   (fun c pre Wx => c = .ret ∧ pre ≠ [] ∧ KR T R m (fun i => i < W0.heap.size ∧ i ≠ W.heap.size + 1) W0 Wx ∧ Boxed Wx (W.heap.size + 1) 4 (.bool (canFrom T O R hs n (k + 1))))
   (fun s X Y h hk => ⟨h.1, h.2.1.weak hk (fun i hi _ => hi.1), hk.box h.2.2 (by omega)⟩)
   (fun c s X Y h hk => ⟨h.1, h.2.1, h.2.2.1.weak hk (fun i hi _ => hi.1), hk.box h.2.2.2 (by omega)⟩)
   ⟨rfl, KR.refl _ _ _ _ _, b4⟩
   (fun x a' Wx => a' = { tmps := #[.int .i64 (k : Int), .pointer (some ⟨B, 0, none⟩), .pointer (some ⟨F, 0, none⟩), .pointer (some ⟨W.heap.size, 0, none⟩), .pointer (some ⟨W.heap.size + 1, 0, none⟩), .int .i64 (k : Int), .pointer (some ⟨B, 0, none⟩), .pointer (some ⟨B, 0, none⟩), .pointer (some ⟨B, 2, none⟩), .int .i64 L, .int .i64 (n : Int), .bool false, .agg #[.int .i64 T, .int .i64 O, .int .i64 L, .slice A R.length c, .map (some m), .slice A1 hs.length c1], .int .i64 (k : Int), .func (.func 85) #[] #[.pointer (some ⟨W.heap.size + 1 + 1, 0, none⟩), .pointer (some ⟨W.heap.size + 1 + 1 + 1, 0, none⟩)], .agg #[.int .i64 x.1, .int .i64 x.2], undef, undef, undef, undef], defers := [] })
   (fun x a' X Y h hk => h)
   ?assign ?body ?done ?stop
  case assign =>
   rintro l2 pre x Wx K hI hK
   dsimp only [encP]
   gi_wp2
   exact hK _ _ (KeepsFrom.refl _ _) (KR.refl _ _ _ _ _) hI (by simp)
  case body =>
   rintro l2 pre x a' Wx hl2 hok hpre ⟨rfl, hK1, hb1⟩ rfl
   have XCx := zh (hK1.ctx X0.out (fun i hi => ⟨by omega, by omega⟩))
   have Fx := zh (hK1.at (K1.out.at HF.out hFm) ⟨by omega, by omega⟩ hFm)
   have Bx := zh (hK1.at (K1.out.at HB.out hBm) ⟨by omega, by omega⟩ hBm)
   have Px := zh (hK1.at P0.out ⟨by omega, by omega⟩ (by omega))
   have HKx := zh hK1
   have HBx := zh hb1
   have f0 : Wx.cell? ⟨F, 0, none⟩ = some (.func (.func 84) #[] #[.pointer (some ⟨B, 0, none⟩), .pointer (some ⟨F, 0, none⟩)]) := vb Fx 0
   have p0 : Wx.cell? ⟨W.heap.size, 0, none⟩ = some (.int .i64 (k : Int)) := vb Px 0
   clear hK1 hb1
   gi_wp2_with (refine ⟨trivial, ?_⟩; gi_at_call 84; refine (CallsIn.inRound l2 (callsIn_any _ (IH.out Wx XCx.out Bx.out Fx.out))).mono ?_; rintro e w5 ⟨rfl, hk5⟩; have HK5 := zh hk5; have HB5 := zh (hk5.box HBx.out (by omega)); clear hk5; have y0 := HB5.out.cell; have y1 := HB5.out.frozen)
   exact ⟨((HK5.out.round (fun _ => True)).keeps (fun _ _ _ => trivial) (by omega)).trans ((KeepsOthers.setCell _ _ _).from _), (HK5.out.round _).set (.inl dQ15) (by omega) 0 _, rfl, by simp, (HKx.out.step HK5.out).set (.inl (fun h => h.2 rfl)) (by omega) 0 _, HB5.out.set _⟩
  case done =>
   rintro D Wx hD ⟨hnil, hK1, hb1⟩ hKd
   have y0 := hb1.cell
   have y1 := hb1.frozen
   have HKx := zh hK1
   have HBx := zh hb1
   have HN := zh hnil
   have HD := zh hKd
   clear hK1 hb1 hKd hnil
   gi_wp2
   have HD2 := zh ((KeepsOthers.setCell Wx ⟨W.heap.size + 1, 0, none⟩ (.bool false)).same D _ HD.out rfl)
   have HB2 : Boxed ((Wx.setCell ⟨W.heap.size + 1, 0, none⟩ (.bool false)).putObj D (.deferred none)) (W.heap.size + 1) 4 (.bool false) := blk_putObj (HBx.out.set _) HD2.out rfl
   have y2 := HB2.cell
   refine ⟨by simp, .inl ⟨_, _, rfl, run_takeDeferred HD2.out, ?_⟩⟩
   refine ⟨.bool false, by simp [results, Tryd.results84, go_sem, y2], ?_, ?_⟩
   ·rw [HCS.out, HN.out]; rfl
   ·exact KR.kbs K1.out ((HKx.out.set (.inl (fun h => h.2 rfl)) (by omega) 0 _).putObj D _ (.inl (fun h => absurd h.1 (by omega))) (by omega)) (fun i hi => ⟨by omega, by omega⟩)
  case stop =>
   rintro D c pre Wx hD hpre ⟨rfl, hne', hK1, hb1⟩ hKd
   have HKx := zh hK1
   have HBx := zh hb1
   have HD2 := zh hKd
   have HP := zh hpre
   have HNE := zh hne'
   clear hK1 hb1 hKd hpre hne'
   gi_wp2
   have HB2 : Boxed (Wx.putObj D (.deferred none)) (W.heap.size + 1) 4 (.bool (canFrom T O R hs n (k + 1))) := blk_putObj HBx.out HD2.out rfl
   have y2 := HB2.cell
   refine ⟨by simp, .inl ⟨_, _, rfl, run_takeDeferred HD2.out, ?_⟩⟩
   refine ⟨.bool (canFrom T O R hs n (k + 1)), by simp [results, Tryd.results84, go_sem, y2], ?_, ?_⟩
   ·have e : (choices T O R hs (k : Int)).isEmpty = false := by
     cases hc : choices T O R hs (k : Int) with
     | nil => have h := HP.out; rw [hc] at h; exact absurd (List.prefix_nil.1 h) HNE.out
     | cons x l => rfl
    rw [HCS.out, e]; rfl
   ·exact KR.kbs K1.out (HKx.out.putObj D _ (.inl (fun h => absurd h.1 (by omega))) (by omega)) (fun i hi => ⟨by omega, by omega⟩)
end Go.Proofs.YtagkfkdoibnhfaaDoor.K
end
