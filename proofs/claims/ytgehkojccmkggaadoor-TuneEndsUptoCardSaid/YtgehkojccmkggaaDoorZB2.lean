/- Texts of this seat, joined (pruned by a program of this session to what the claim comes to). -/
import Derived.ArgAppend
import Derived.Below
import Derived.BigQuiet
import Derived.Carry
import Derived.ChangeKeysEq
import Derived.ControlIn
import Derived.Deep.AppendLies
import Derived.Deep.CutBlock
import Derived.Deep.DeepCutAuto
import Derived.Deep.Draws
import Derived.Deep.LoopGhost
import Derived.Deep.OwnRows
import Derived.Deep.QuietTactic
import Derived.Deep.RegionHeld3
import Derived.KernelRfl
import Derived.Laws.BitsLemmas
import Derived.Laws.BytesArg
import Derived.Laws.IdiomCopy
import Derived.Laws.MakeOwn
import Derived.Laws.OwnMore
import Derived.Laws.Rows
import Derived.Laws.Slices
import Derived.Laws.StructEq
import Derived.Lib.AppendStr
import Derived.Lib.ConvBytes
import Derived.LoopIn
import Derived.LoopNIn
import Derived.Maps.AppendAt
import Derived.OrdersHeld
import Derived.OrdersIn
import Derived.Outline
import Derived.OwnWalk
import Derived.OwnWalkIn
import Derived.RangeFuncBound
import Derived.RangeFuncCalls
import Derived.RangeFuncLeaves
import Derived.RangeFuncNested
import Derived.RowKit
import Derived.RowKit3
import Derived.Scope
import Derived.Shelf.Abstract
import Derived.Shelf.RegionOpen
import Derived.StillTailTactics
import Derived.Tactics
import Derived.TacticsInMore
import Derived.WalkKit
import Derived.WideLaws
import Derived.Test.YtgehkojccmkggaaDoorProg
import Derived.Test.YtgehkojccmkggaaDoorZB1
set_option linter.all false
section
namespace Go.Proofs.YtgehkojccmkggaaDoor.H
open Go.RowKit Go.Proofs.YtgehkojccmkggaaDoorW.PrintWords Go.Proofs.YtgehkojccmkggaaDoorW.PrintLast Go.Proofs.YtgehkojccmkggaaDoorW.PrintMore
attribute [local go_sem] max2_int min2_int max_two min_two max_three min_three max_four min_four   -- for this text's walks alone
set_option linter.unusedVariables false
set_option linter.unusedSimpArgs false
def errW : Option Int → Value
 | none => .nilIface
 | some c => .iface 0 (.int .i64 c)
theorem errW_none : errW none = .nilIface := rfl
theorem errW_some (c : Int) : errW (some c) = .iface 0 (.int .i64 c) := rfl
theorem info3 : (Tryd.prog.info? 3).map (fun i => (i.zero, i.size, i.bytes)) = some (some (.int .i64 0), 1, 8) := by kernel_rfl
theorem info80 : (Tryd.prog.info? 80).map (fun i => (i.zero, i.size, i.bytes)) = some (some (.agg #[(.int .i64 0), (.int .i64 0), (.int .i64 0), (.int .i64 0), (.int .i64 0)]), 5, 40) := by kernel_rfl
structure S26 where
 f0 : Int
 f1 : Int
def z26 : S26 := ⟨(0 : Int), (0 : Int)⟩
def k26 : Kd S26 := Kd.iso (Kd.pair (Kd.int .i64) (Kd.int .i64)) (fun x : S26 => (x.f0, x.f1))
theorem k26_open {w : World} {x : S26} {cs : List Value} (h : k26.K w x cs) : cs = [.int .i64 x.f0, .int .i64 x.f1] := by
 obtain ⟨_, _, rfl, rfl, rfl⟩ := h
 exact rfl
theorem k26_mk (w : World) (x : S26)  : k26.K w x [.int .i64 x.f0, .int .i64 x.f1] := ⟨[.int .i64 x.f0], [.int .i64 x.f1], rfl, rfl, rfl⟩
theorem k26_mkM (w : World) (base : Nat) (ok : Nat → Prop) (x : S26)  : k26.M w base ok x [.int .i64 x.f0, .int .i64 x.f1] := ⟨[.int .i64 x.f0], [.int .i64 x.f1], rfl, rfl, rfl⟩
def rd_T26 (xs : List S26) (i : Int) : S26 := xs.getD i.toNat z26
theorem at_T26 {w : World} {A : Option Addr} {n : Nat} {xs : List S26} (h : Kd.C k26 w A n xs) (i : Int) (h0 : 0 ≤ i) (h1 : i < n) : ∃ ad , A = some ad ∧ w.cell? (ad.add (i.toNat * 2)) = some (.int .i64 (rd_T26 xs i).f0) ∧ w.cell? ⟨(ad.add (i.toNat * 2)).block, (ad.add (i.toNat * 2)).off + 1, none⟩ = some (.int .i64 (rd_T26 xs i).f1) := by
 obtain ⟨ad, c, e, _, hK, hc0⟩ := Kd.C_get h z26 i h0 h1
 have hc : ∀ j u, c[j]? = some u → w.cell? (ad.add (i.toNat * 2 + j)) = some u := hc0
 obtain rfl := k26_open hK
 exact ⟨ad, e, hc 0 _ rfl, by rw [← add_field _ _ 1 (by omega)]; exact hc 1 _ rfl⟩
structure S61 where
 f0 : (List Int)
 f1 : (List S26)
def z61 : S61 := ⟨([] : List Int), ([] : List S26)⟩
def k61 : Kd S61 := Kd.iso (Kd.pair (Kd.slice 3 (Kd.int .i64)) (Kd.slice 26 k26)) (fun x : S61 => (x.f0, x.f1))
theorem k61_open {w : World} {x : S61} {cs : List Value} (h : k61.K w x cs) : ∃ A0 c0 A1 c1, cs = [.slice A0 x.f0.length c0, .slice A1 x.f1.length c1] ∧ x.f0.length ≤ c0 ∧ (Kd.int .i64).C w A0 x.f0.length x.f0 ∧ x.f1.length ≤ c1 ∧ k26.C w A1 x.f1.length x.f1 := by
 obtain ⟨_, _, rfl, ⟨A0, c0, rfl, l0, g0⟩, ⟨A1, c1, rfl, l1, g1⟩⟩ := h
 exact ⟨A0, c0, A1, c1, rfl, l0, g0, l1, g1⟩
theorem k61_mk (w : World) (x : S61) {A0 : Option Addr} {c0 : Nat} (l0 : x.f0.length ≤ c0) (g0 : (Kd.int .i64).C w A0 x.f0.length x.f0) {A1 : Option Addr} {c1 : Nat} (l1 : x.f1.length ≤ c1) (g1 : k26.C w A1 x.f1.length x.f1) : k61.K w x [.slice A0 x.f0.length c0, .slice A1 x.f1.length c1] := ⟨[.slice A0 x.f0.length c0], [.slice A1 x.f1.length c1], rfl, ⟨A0, c0, rfl, l0, g0⟩, ⟨A1, c1, rfl, l1, g1⟩⟩
theorem k61_mkF (W : World) (ok : Nat → Prop) (x : S61) {A0 : Option Addr} {c0 : Nat} (l0 : x.f0.length ≤ c0) (g0 : Kd.F (Kd.int .i64) W ok A0 x.f0.length x.f0) {A1 : Option Addr} {c1 : Nat} (l1 : x.f1.length ≤ c1) (g1 : Kd.F k26 W ok A1 x.f1.length x.f1) : Kd.FK k61 W ok x [.slice A0 x.f0.length c0, .slice A1 x.f1.length c1] := fun W2 hW => k61_mk W2 x l0 (g0 W2 hW) l1 (g1 W2 hW)
def rd_T61 (xs : List S61) (i : Int) : S61 := xs.getD i.toNat z61
theorem at_T61 {w : World} {A : Option Addr} {n : Nat} {xs : List S61} (h : Kd.C k61 w A n xs) (i : Int) (h0 : 0 ≤ i) (h1 : i < n) : ∃ ad A0 c0 A1 c1, A = some ad ∧ w.cell? (ad.add (i.toNat * 2)) = some (.slice A0 (rd_T61 xs i).f0.length c0) ∧ w.cell? ⟨(ad.add (i.toNat * 2)).block, (ad.add (i.toNat * 2)).off + 1, none⟩ = some (.slice A1 (rd_T61 xs i).f1.length c1) ∧ (rd_T61 xs i).f0.length ≤ c0 ∧ (Kd.int .i64).C w A0 (rd_T61 xs i).f0.length (rd_T61 xs i).f0 ∧ (rd_T61 xs i).f1.length ≤ c1 ∧ k26.C w A1 (rd_T61 xs i).f1.length (rd_T61 xs i).f1 := by
 obtain ⟨ad, c, e, _, hK, hc0⟩ := Kd.C_get h z61 i h0 h1
 have hc : ∀ j u, c[j]? = some u → w.cell? (ad.add (i.toNat * 2 + j)) = some u := hc0
 obtain ⟨A0, c0, A1, c1, rfl, l0, g0, l1, g1⟩ := k61_open hK
 exact ⟨ad, A0, c0, A1, c1, e, hc 0 _ rfl, by rw [← add_field _ _ 1 (by omega)]; exact hc 1 _ rfl, l0, g0, l1, g1⟩
structure S48 where
 f0 : Int
 f1 : Int
def z48 : S48 := ⟨(0 : Int), (0 : Int)⟩
def k48 : Kd S48 := Kd.iso (Kd.pair (Kd.int .i64) (Kd.int .i64)) (fun x : S48 => (x.f0, x.f1))
theorem k48_open {w : World} {x : S48} {cs : List Value} (h : k48.K w x cs) : cs = [.int .i64 x.f0, .int .i64 x.f1] := by
 obtain ⟨_, _, rfl, rfl, rfl⟩ := h
 exact rfl
theorem k48_mk (w : World) (x : S48)  : k48.K w x [.int .i64 x.f0, .int .i64 x.f1] := ⟨[.int .i64 x.f0], [.int .i64 x.f1], rfl, rfl, rfl⟩
theorem k48_mkM (w : World) (base : Nat) (ok : Nat → Prop) (x : S48)  : k48.M w base ok x [.int .i64 x.f0, .int .i64 x.f1] := ⟨[.int .i64 x.f0], [.int .i64 x.f1], rfl, rfl, rfl⟩
def rd_T48 (xs : List S48) (i : Int) : S48 := xs.getD i.toNat z48
theorem at_T48 {w : World} {A : Option Addr} {n : Nat} {xs : List S48} (h : Kd.C k48 w A n xs) (i : Int) (h0 : 0 ≤ i) (h1 : i < n) : ∃ ad , A = some ad ∧ w.cell? (ad.add (i.toNat * 2)) = some (.int .i64 (rd_T48 xs i).f0) ∧ w.cell? ⟨(ad.add (i.toNat * 2)).block, (ad.add (i.toNat * 2)).off + 1, none⟩ = some (.int .i64 (rd_T48 xs i).f1) := by
 obtain ⟨ad, c, e, _, hK, hc0⟩ := Kd.C_get h z48 i h0 h1
 have hc : ∀ j u, c[j]? = some u → w.cell? (ad.add (i.toNat * 2 + j)) = some u := hc0
 obtain rfl := k48_open hK
 exact ⟨ad, e, hc 0 _ rfl, by rw [← add_field _ _ 1 (by omega)]; exact hc 1 _ rfl⟩
structure S80 where
 f0 : Int
 f1 : Int
 f2 : Int
 f3 : S26
def z80 : S80 := ⟨(0 : Int), (0 : Int), (0 : Int), z26⟩
def k80 : Kd S80 := Kd.iso (Kd.pair (Kd.int .i64) (Kd.pair (Kd.int .i64) (Kd.pair (Kd.int .i64) k26))) (fun x : S80 => (x.f0, x.f1, x.f2, x.f3))
theorem k80_open {w : World} {x : S80} {cs : List Value} (h : k80.K w x cs) : cs = [.int .i64 x.f0, .int .i64 x.f1, .int .i64 x.f2, .int .i64 x.f3.f0, .int .i64 x.f3.f1] := by
 obtain ⟨_, _, rfl, rfl, ⟨_, _, rfl, rfl, ⟨_, _, rfl, rfl, s3⟩⟩⟩ := h
 obtain rfl := k26_open s3
 exact rfl
theorem k80_mkM (w : World) (base : Nat) (ok : Nat → Prop) (x : S80)  : k80.M w base ok x [.int .i64 x.f0, .int .i64 x.f1, .int .i64 x.f2, .int .i64 x.f3.f0, .int .i64 x.f3.f1] := ⟨[.int .i64 x.f0], [.int .i64 x.f1, .int .i64 x.f2, .int .i64 x.f3.f0, .int .i64 x.f3.f1], rfl, rfl, ⟨[.int .i64 x.f1], [.int .i64 x.f2, .int .i64 x.f3.f0, .int .i64 x.f3.f1], rfl, rfl, ⟨[.int .i64 x.f2], [.int .i64 x.f3.f0, .int .i64 x.f3.f1], rfl, rfl, (k26_mkM w base ok x.f3 )⟩⟩⟩
def rd_T80 (xs : List S80) (i : Int) : S80 := xs.getD i.toNat z80
theorem at_T80 {w : World} {A : Option Addr} {n : Nat} {xs : List S80} (h : Kd.C k80 w A n xs) (i : Int) (h0 : 0 ≤ i) (h1 : i < n) : ∃ ad , A = some ad ∧ w.cell? (ad.add (i.toNat * 5)) = some (.int .i64 (rd_T80 xs i).f0) ∧ w.cell? ⟨(ad.add (i.toNat * 5)).block, (ad.add (i.toNat * 5)).off + 1, none⟩ = some (.int .i64 (rd_T80 xs i).f1) ∧ w.cell? ⟨(ad.add (i.toNat * 5)).block, (ad.add (i.toNat * 5)).off + 2, none⟩ = some (.int .i64 (rd_T80 xs i).f2) ∧ w.cell? ⟨(ad.add (i.toNat * 5)).block, (ad.add (i.toNat * 5)).off + 3, none⟩ = some (.int .i64 (rd_T80 xs i).f3.f0) ∧ w.cell? ⟨(ad.add (i.toNat * 5)).block, (ad.add (i.toNat * 5)).off + 4, none⟩ = some (.int .i64 (rd_T80 xs i).f3.f1) := by
 obtain ⟨ad, c, e, _, hK, hc0⟩ := Kd.C_get h z80 i h0 h1
 have hc : ∀ j u, c[j]? = some u → w.cell? (ad.add (i.toNat * 5 + j)) = some u := hc0
 obtain rfl := k80_open hK
 exact ⟨ad, e, hc 0 _ rfl, by rw [← add_field _ _ 1 (by omega)]; exact hc 1 _ rfl, by rw [← add_field _ _ 2 (by omega)]; exact hc 2 _ rfl, by rw [← add_field _ _ 3 (by omega)]; exact hc 3 _ rfl, by rw [← add_field _ _ 4 (by omega)]; exact hc 4 _ rfl⟩
end Go.Proofs.YtgehkojccmkggaaDoor.H
end
section
namespace Tune
structure J where
 one : Nat
 two : Nat
 step : Bool
 lo : Int
 hi : Int
deriving DecidableEq, Repr
inductive Forest : List J → (Nat → Nat) → Prop
 | nil : Forest [] id
 | snoc {js : List J} {g : Nat → Nat} {j : J} : Forest js g → g j.one ≠ g j.two → Forest (js ++ [j]) (fun k => if g k = g j.two then g j.one else g k)
def Adj (js : List J) (x y : Nat) : Prop := ∃ j ∈ js, (j.one = x ∧ j.two = y) ∨ (j.two = x ∧ j.one = y)
theorem adj_snoc {js : List J} {j : J} {x y : Nat} : Adj (js ++ [j]) x y ↔ Adj js x y ∨ (j.one = x ∧ j.two = y) ∨ (j.two = x ∧ j.one = y) := by
 constructor
 ·rintro ⟨k, hk, h⟩
  rcases List.mem_append.1 hk with hk | hk
  ·exact .inl ⟨k, hk, h⟩
  ·rw [List.mem_singleton] at hk
   subst hk
   exact .inr h
 ·rintro (⟨k, hk, h⟩ | h)
  ·exact ⟨k, List.mem_append.2 (.inl hk), h⟩
  ·exact ⟨j, List.mem_append.2 (.inr (by simp)), h⟩
theorem Forest.same {js : List J} {g : Nat → Nat} (h : Forest js g) {x y : Nat} (ha : Adj js x y) : g x = g y := by
 induction h generalizing x y with
 | nil => obtain ⟨_, h, _⟩ := ha; cases h
 | @snoc js g j hf hne ih =>
  rcases adj_snoc.1 ha with ha | ⟨rfl, rfl⟩ | ⟨rfl, rfl⟩
  ·simp only [ih ha]
  ·simp [hne]
  ·simp [hne]
inductive Walk (js : List J) : Nat → Nat → Nat → Nat → Prop
 | one {x y : Nat} : Adj js x y → Walk js x y x y
 | step {x y u v w : Nat} : Walk js x y u v → Adj js v w → w ≠ u → Walk js x y v w
theorem Walk.last {js : List J} {x y u v : Nat} (h : Walk js x y u v) : Adj js u v := by
 cases h with
 | one h => exact h
 | step _ h _ => exact h
theorem Walk.group {js : List J} {g : Nat → Nat} (hf : Forest js g) {x y u v : Nat} (h : Walk js x y u v) : g x = g v := by
 induction h with
 | one h => exact hf.same h
 | step _ ha _ ih => exact ih.trans (hf.same ha)
theorem Walk.split {js : List J} {g : Nat → Nat} {j : J} (hf : Forest js g) (hne : g j.one ≠ g j.two) (noloop : ∀ x y u, ¬ Walk js x y u x) {x y u v : Nat} (h : Walk (js ++ [j]) x y u v) :
  Walk js x y u v ∨ (∃ a b, ((j.one = a ∧ j.two = b) ∨ (j.two = a ∧ j.one = b)) ∧ g x = g a ∧ ((u = a ∧ v = b) ∨ ∃ c, c ≠ a ∧ Walk js b c u v)) := by
 induction h with
 | one h =>
  rcases adj_snoc.1 h with h | h
  ·exact .inl (.one h)
  ·exact .inr ⟨_, _, h, rfl, .inl ⟨rfl, rfl⟩⟩
 | @step u v w hw ha hn ih =>
  rcases ih with ih | ⟨a, b, hj, hg, ih⟩
  ·rcases adj_snoc.1 ha with ha | ha
   ·exact .inl (.step ih ha hn)
   ·exact .inr ⟨v, w, ha, ih.group hf, .inl ⟨rfl, rfl⟩⟩
  ·right
   refine ⟨a, b, hj, hg, .inr ?_⟩
   rcases ih with ⟨rfl, rfl⟩ | ⟨c, hc, ih⟩
   ·rcases adj_snoc.1 ha with ha | ha
    ·exact ⟨w, hn, .one ha⟩
    ·exfalso
     rcases hj with ⟨h1, h2⟩ | ⟨h1, h2⟩ <;> rcases ha with ⟨h3, h4⟩ | ⟨h3, h4⟩
     ·exact hne (by rw [h3, h2])
     ·exact hn (by rw [← h4, h1])
     ·exact hn (by rw [← h4, h1])
     ·exact hne (by rw [h3, h2])
   ·rcases adj_snoc.1 ha with ha | ha
    ·exact ⟨c, hc, .step ih ha hn⟩
    ·exfalso
     have hgv := ih.group hf
     have hv : v = b := by
      rcases hj with ⟨h1, h2⟩ | ⟨h1, h2⟩ <;> rcases ha with ⟨h3, h4⟩ | ⟨h3, h4⟩
      ·exact absurd (show g j.one = g j.two by rw [h3, h2]; exact hgv.symm) hne
      ·rw [← h3, h2]
      ·rw [← h3, h2]
      ·exact absurd (show g j.one = g j.two by rw [h3, h2]; exact hgv) hne
     subst hv
     exact noloop _ _ _ ih
theorem Forest.noloop {js : List J} {g : Nat → Nat} (h : Forest js g) : ∀ x y u, ¬ Walk js x y u x := by
 induction h with
 | nil =>
  intro x y u hw
  obtain ⟨_, h, _⟩ := hw.last
  cases h
 | @snoc js g j hf hne ih =>
  intro x y u hw
  rcases Walk.split hf hne ih hw with hw | ⟨a, b, hj, hg, hw⟩
  ·exact ih _ _ _ hw
  ·have hab : g a ≠ g b := by
    rcases hj with ⟨rfl, rfl⟩ | ⟨rfl, rfl⟩
    ·exact hne
    ·exact hne.symm
   rcases hw with ⟨rfl, rfl⟩ | ⟨c, _, hw⟩
   ·exact hab hg.symm
   ·exact hab (hg.symm.trans (hw.group hf).symm)
end Tune
namespace Tune
def Joins (j : J) (x o : Nat) : Prop := (j.one = x ∧ j.two = o) ∨ (j.two = x ∧ j.one = o)
def fits (j : J) (p q : Int) : Prop := if j.step then j.lo * p ≤ 1000 * q ∧ 1000 * q ≤ j.hi * p else j.lo ≤ q - p ∧ q - p ≤ j.hi
def FitsAt (j : J) (x : Nat) (p q : Int) : Prop := if j.one = x then fits j p q else fits j q p
inductive Ends (js : List J) : Nat → Option Nat → Prop
 | mk {x : Nat} {frm : Option Nat} : (∀ j ∈ js, ∀ o, Joins j x o → some o ≠ frm → Ends js o (some x)) → Ends js x frm
inductive Can (js : List J) (D : Nat → Int → Prop) : Nat → Int → Option Nat → Prop
 | mk {x : Nat} {p : Int} {frm : Option Nat} (f : J → Int) : D x p → (∀ j ∈ js, ∀ o, Joins j x o → some o ≠ frm → FitsAt j x p (f j)) → (∀ j ∈ js, ∀ o, Joins j x o → some o ≠ frm → Can js D o (f j) (some x)) → Can js D x p frm
theorem Joins.adj {js : List J} {j : J} {x o : Nat} (hj : j ∈ js) (h : Joins j x o) : Adj js x o := ⟨j, hj, h⟩
theorem Forest.ends {js : List J} {g : Nat → Nat} (h : Forest js g) : ∀ x frm, Ends js x frm := by
 induction h with
 | nil => exact fun x frm => .mk (fun j hj => by cases hj)
 | @snoc js g j hf hne ih =>
  have far : ∀ a b, Joins j a b → ∀ y frm, Ends js y frm → ∀ c u, Walk js b c u y → frm = some u → Ends (js ++ [j]) y (some u) := by
   intro a b hab y frm he
   induction he with
   | @mk y frm hs ihe =>
    intro c u hw hu
    subst hu
    refine .mk fun k hk o hjo hou => ?_
    rcases List.mem_append.1 hk with hk | hk
    ·have hne' : o ≠ u := fun e => hou (by rw [e])
     exact ihe k hk o hjo hou c y (.step hw (hjo.adj hk) hne') rfl
    ·exfalso
     rw [List.mem_singleton] at hk
     subst hk
     have hgy := hw.group hf
     rcases hab with ⟨h1, h2⟩ | ⟨h1, h2⟩ <;> rcases hjo with ⟨h3, h4⟩ | ⟨h3, h4⟩
     ·exact hne (by rw [h3, h2]; exact hgy.symm)
     ·exact hf.noloop b c u (by rw [show y = b by rw [← h3, h2]] at hw; exact hw)
     ·exact hf.noloop b c u (by rw [show y = b by rw [← h3, h2]] at hw; exact hw)
     ·exact hne (by rw [h3, h2]; exact hgy)
  have over : ∀ a b, Joins j a b → Ends (js ++ [j]) b (some a) := by
   intro a b hab
   refine .mk fun k hk o hjo hoa => ?_
   rcases List.mem_append.1 hk with hk | hk
   ·exact far a b hab o (some b) (ih o (some b)) o b (.one (hjo.adj hk)) rfl
   ·exfalso
    rw [List.mem_singleton] at hk
    subst hk
    rcases hab with ⟨h1, h2⟩ | ⟨h1, h2⟩ <;> rcases hjo with ⟨h3, h4⟩ | ⟨h3, h4⟩
    ·exact hne (by rw [h3, h2])
    ·exact hoa (by rw [← h4, h1])
    ·exact hoa (by rw [← h4, h1])
    ·exact hne (by rw [h3, h2])
  intro x frm
  have := ih x frm
  induction this with
  | @mk x frm hs ihe =>
   refine .mk fun k hk o hjo hof => ?_
   rcases List.mem_append.1 hk with hk | hk
   ·exact ihe k hk o hjo hof
   ·rw [List.mem_singleton] at hk
    subst hk
    exact over x o hjo
theorem Can.dom {js : List J} {D : Nat → Int → Prop} {x : Nat} {p : Int} {frm : Option Nat} (h : Can js D x p frm) : D x p := by
 cases h with
 | mk f hD _ _ => exact hD
theorem Can.complete {js : List J} {D : Nat → Int → Prop} {l : Nat → Int} (hD : ∀ y, D y (l y)) (hj : ∀ j ∈ js, fits j (l j.one) (l j.two)) {x : Nat} {frm : Option Nat} (h : Ends js x frm) : Can js D x (l x) frm := by
 induction h with
 | @mk x frm hs ih =>
  refine .mk (fun j => if j.one = x then l j.two else l j.one) (hD x) (fun j hjm o hjo ho => ?_) (fun j hjm o hjo ho => ?_)
  ·unfold FitsAt
   split
   ·rename_i h
    have := hj j hjm
    rw [h] at this
    exact this
   ·rename_i h
    have h2 : j.two = x := hjo.elim (fun g => absurd g.1 h) (fun g => g.1)
    have := hj j hjm
    rw [h2] at this
    exact this
  ·have := ih j hjm o hjo ho
   split
   ·rename_i h
    rcases hjo with ⟨_, h4⟩ | ⟨h3, h4⟩
    ·rw [h4]; exact this
    ·have e : j.two = o := by rw [h3, ← h, h4]
     rw [e]; exact this
   ·rename_i h
    rcases hjo with ⟨h3, _⟩ | ⟨_, h4⟩
    ·exact absurd h3 h
    ·rw [h4]; exact this
end Tune
namespace Tune
def run : List J → (Nat → Nat) → Option (Nat → Nat)
 | [], g => some g
 | j :: r, g => if g j.one = g j.two then none else run r (fun k => if g k = g j.two then g j.one else g k)
theorem run_forest {pre : List J} {g0 : Nat → Nat} (h0 : Forest pre g0) : ∀ {r : List J} {g : Nat → Nat}, run r g0 = some g → Forest (pre ++ r) g := by
 intro r
 induction r generalizing pre g0 with
 | nil =>
  intro g h
  injection h with h
  subst h
  rw [List.append_nil]
  exact h0
 | cons j r ih =>
  intro g h
  unfold run at h
  split at h
  ·cases h
  ·rename_i hne
   have := ih (Forest.snoc h0 hne) h
   rw [List.append_assoc] at this
   exact this
theorem run_of_forest {js : List J} {g : Nat → Nat} (h : run js id = some g) : Forest js g := run_forest Forest.nil h
theorem sublist_snoc {α : Type} {l js : List α} {j : α} (h : l.Sublist (js ++ [j])) : l.Sublist js ∨ ∃ l', l = l' ++ [j] ∧ l'.Sublist js := by
 obtain ⟨l1, l2, rfl, h1, h2⟩ := List.sublist_append_iff.1 h
 cases h2 with
 | cons _ h2 =>
  cases h2
  left
  rw [List.append_nil]
  exact h1
 | cons_cons _ h2 =>
  cases h2
  exact .inr ⟨l1, rfl, h1⟩
theorem Forest.sub {js : List J} {g : Nat → Nat} (h : Forest js g) : ∀ {l : List J}, l.Sublist js → ∃ g', Forest l g' ∧ ∀ x y, g' x = g' y → g x = g y := by
 induction h with
 | nil =>
  intro l hl
  obtain rfl := List.sublist_nil.1 hl
  exact ⟨id, .nil, fun _ _ h => h⟩
 | @snoc js g j hf hne ih =>
  intro l hl
  rcases sublist_snoc hl with hl2 | ⟨l', rfl, hl2⟩
  ·obtain ⟨g', h1, h2⟩ := ih hl2
   exact ⟨g', h1, fun x y h => by simp only [h2 x y h]⟩
  ·obtain ⟨g', h1, h2⟩ := ih hl2
   refine ⟨_, .snoc h1 (fun e => hne (h2 _ _ e)), fun x y h => ?_⟩
   simp only [] at h ⊢
   by_cases hx : g' x = g' j.two <;> by_cases hy : g' y = g' j.two
   ·rw [if_pos (h2 _ _ hx), if_pos (h2 _ _ hy)]
   ·rw [if_pos hx, if_neg hy] at h
    have h3 := h2 _ _ h
    rw [if_pos (h2 _ _ hx), ← h3, if_neg hne]
   ·rw [if_neg hx, if_pos hy] at h
    have h3 := h2 _ _ h
    rw [if_pos (h2 _ _ hy), h3, if_neg hne]
   ·rw [if_neg hx, if_neg hy] at h
    rw [h2 _ _ h]
end Tune
namespace Tune
theorem Forest.rooted {js : List J} {g : Nat → Nat} (h : Forest js g) : ∀ (r : Nat → Nat), (∀ x, g (r (g x)) = g x) →
  ∃ (par : Nat → Option Nat) (rank depth : Nat → Nat), (∀ x, par (r (g x)) = none) ∧ (∀ x o, par x = some o → Adj js x o ∧ depth x = depth o + 1) ∧ (∀ x, par x = none → depth x = 0 ∧ x = r (g x)) ∧ ∀ j ∈ js, ∀ x o, Joins j x o → some o ≠ par x → par o = some x ∧ rank o < rank x := by
 induction h with
 | nil => exact fun r hr => ⟨fun _ => none, fun _ => 0, fun _ => 0, fun _ => rfl, (fun x o h => by cases h), fun x _ => ⟨rfl, (hr x).symm⟩, fun j hj => by cases hj⟩
 | @snoc js g j hf hne ih =>
  intro r hr
  have main : ∀ a b, Joins j a b → g (r (g j.one)) = g a →
    ∃ (par : Nat → Option Nat) (rank depth : Nat → Nat), (∀ x, par (r ((fun k => if g k = g j.two then g j.one else g k) x)) = none) ∧ (∀ x o, par x = some o → Adj (js ++ [j]) x o ∧ depth x = depth o + 1) ∧ (∀ x, par x = none → depth x = 0 ∧ x = r ((fun k => if g k = g j.two then g j.one else g k) x)) ∧ ∀ k ∈ js ++ [j], ∀ x o, Joins k x o → some o ≠ par x → par o = some x ∧ rank o < rank x := by
   intro a b hab hra
   have hgab : g a ≠ g b := by
    rcases hab with ⟨rfl, rfl⟩ | ⟨rfl, rfl⟩
    ·exact hne
    ·exact hne.symm
   have hor : ∀ x, (g x = g j.two ∨ g x = g j.one) → g x = g a ∨ g x = g b := by
    intro x hx
    rcases hab with ⟨rfl, rfl⟩ | ⟨rfl, rfl⟩
    ·exact hx.symm
    ·exact hx
   have hoff : ∀ x, ¬ g x = g a → ¬ g x = g b → ¬ g x = g j.two ∧ ¬ g x = g j.one := by
    intro x h1 h2
    rcases hab with ⟨rfl, rfl⟩ | ⟨rfl, rfl⟩
    ·exact ⟨h2, h1⟩
    ·exact ⟨h1, h2⟩
   have hone : g j.one = g a ∨ g j.one = g b := hor _ (.inr rfl)
   obtain ⟨par, rank, depth, p1, p2, p4, p3⟩ := ih (fun c => if c = g b then b else if c = g a then r (g j.one) else r c) (fun x => by
    show g (if g x = g b then b else if g x = g a then r (g j.one) else r (g x)) = g x
    split
    ·rename_i h; exact h.symm
    ·split
     ·rename_i h; rw [hra]; exact h.symm
     ·rename_i h1 h2
      have h3 := hoff x h2 h1
      have := hr x
      simp only [h3.1, if_false] at this
      split at this
      ·exact absurd this.symm h3.2
      ·exact this)
   have pb : par b = none := by have := p1 b; simpa using this
   have pa : par (r (g j.one)) = none := by have := p1 a; simpa [hgab] using this
   have nb : r (g j.one) ≠ b := fun e => hgab (by rw [← hra, e])
   refine ⟨fun x => if x = b then some a else par x, fun x => if g x = g a then rank x + rank b + 1 else rank x, fun x => if g x = g b then depth x + depth a + 1 else depth x, fun x => ?_, fun x o hx => ?_, fun x hx => ?_, fun k hk x o hjo ho => ?_⟩
   ·show (if r (if g x = g j.two then g j.one else g x) = b then some a else par (r (if g x = g j.two then g j.one else g x))) = none
    by_cases h1 : g x = g j.two
    ·rw [if_pos h1, if_neg nb]; exact pa
    ·rw [if_neg h1]
     by_cases h2 : g x = g j.one
     ·rw [h2, if_neg nb]; exact pa
     ·have hxa : ¬ g x = g a := fun e => by
       rcases hab with ⟨rfl, rfl⟩ | ⟨rfl, rfl⟩
       ·exact h2 e
       ·exact h1 e
      have hxb : ¬ g x = g b := fun e => by
       rcases hab with ⟨rfl, rfl⟩ | ⟨rfl, rfl⟩
       ·exact h1 e
       ·exact h2 e
      have h3 := p1 x
      rw [if_neg hxb, if_neg hxa] at h3
      have h4 := hr x
      simp only [h1, if_false] at h4
      split
      ·rename_i e
       rw [e] at h4
       split at h4
       ·exact absurd h4.symm h2
       ·exact absurd h4.symm hxb
      ·exact h3
   ·replace hx : (if x = b then some a else par x) = some o := hx
    show Adj (js ++ [j]) x o ∧ (if g x = g b then depth x + depth a + 1 else depth x) = (if g o = g b then depth o + depth a + 1 else depth o) + 1
    split at hx
    ·rename_i e
     injection hx with hx
     subst hx e
     refine ⟨adj_snoc.2 (.inr (by rcases hab with h | h; exact .inr ⟨h.2, h.1⟩; exact .inl ⟨h.2, h.1⟩)), ?_⟩
     rw [if_pos rfl, if_neg hgab, (p4 x pb).1]
     omega
    ·obtain ⟨h1, h2⟩ := p2 x o hx
     refine ⟨adj_snoc.2 (.inl h1), ?_⟩
     rw [hf.same h1]
     split <;> omega
   ·replace hx : (if x = b then some a else par x) = none := hx
    show (if g x = g b then depth x + depth a + 1 else depth x) = 0 ∧ x = r (if g x = g j.two then g j.one else g x)
    split at hx
    ·cases hx
    ·rename_i hxb
     obtain ⟨h1, h2⟩ := p4 x hx
     have hgb : ¬ g x = g b := fun e => hxb (by rw [h2, if_pos e])
     rw [if_neg hgb]
     refine ⟨h1, ?_⟩
     rw [if_neg hgb] at h2
     by_cases hga : g x = g a
     ·rw [if_pos hga] at h2
      have e : (if g x = g j.two then g j.one else g x) = g j.one := by
       rcases hab with ⟨rfl, rfl⟩ | ⟨rfl, rfl⟩
       ·rw [if_neg hgb, hga]
       ·rw [if_pos hga]
      rw [e]
      exact h2
     ·rw [if_neg hga] at h2
      have h3 := hoff x hga hgb
      rw [if_neg h3.1]
      exact h2
   ·simp only [] at ho ⊢
    rcases List.mem_append.1 hk with hk | hk
    ·have hgo : g x = g o := hf.same (hjo.adj hk)
     have h4 : some o ≠ par x := by
      by_cases e : x = b
      ·rw [e, pb]; simp
      ·rw [if_neg e] at ho; exact ho
     obtain ⟨h5, h6⟩ := p3 k hk x o hjo h4
     have nob : o ≠ b := fun e => by rw [e, pb] at h5; cases h5
     rw [if_neg nob, hgo]
     refine ⟨h5, ?_⟩
     split <;> omega
    ·rw [List.mem_singleton] at hk
     subst hk
     have hx : (x = a ∧ o = b) ∨ (x = b ∧ o = a) := by
      rcases hab with ⟨h1, h2⟩ | ⟨h1, h2⟩ <;> rcases hjo with ⟨h3, h4⟩ | ⟨h3, h4⟩
      ·exact .inl ⟨by rw [← h3, h1], by rw [← h4, h2]⟩
      ·exact .inr ⟨by rw [← h3, h2], by rw [← h4, h1]⟩
      ·exact .inr ⟨by rw [← h3, h2], by rw [← h4, h1]⟩
      ·exact .inl ⟨by rw [← h3, h1], by rw [← h4, h2]⟩
     rcases hx with ⟨rfl, rfl⟩ | ⟨rfl, rfl⟩
     ·rw [if_pos rfl, if_pos rfl, if_neg hgab.symm]
      exact ⟨rfl, by omega⟩
     ·rw [if_pos rfl] at ho
      exact absurd rfl ho
  have hr1 := hr j.one
  simp only [hne, if_false] at hr1
  by_cases h : g (r (g j.one)) = g j.two
  ·exact main j.two j.one (.inr ⟨rfl, rfl⟩) h
  ·rw [if_neg h] at hr1
   exact main j.one j.two (.inl ⟨rfl, rfl⟩) hr1
end Tune
namespace Tune
def irange (lo hi : Int) : List Int := (List.range (hi + 1 - lo).toNat).map fun i : Nat => lo + (i : Int)
theorem mem_irange {lo hi p : Int} : p ∈ irange lo hi ↔ lo ≤ p ∧ p ≤ hi := by
 unfold irange
 simp only [List.mem_map, List.mem_range]
 constructor
 ·rintro ⟨i, hi, rfl⟩
  omega
 ·rintro ⟨h1, h2⟩
  exact ⟨(p - lo).toNat, by omega, by omega⟩
theorem irange_nil {lo hi : Int} (h : hi < lo) : irange lo hi = [] := by
 unfold irange
 rw [show (hi + 1 - lo).toNat = 0 from by omega]
 rfl
theorem irange_cons {lo hi : Int} (h : lo ≤ hi) : irange lo hi = lo :: irange (lo + 1) hi := by
 unfold irange
 obtain ⟨d, hd⟩ : ∃ d : Nat, hi + 1 - lo = d + 1 := ⟨(hi - lo).toNat, by omega⟩
 have e1 : (hi + 1 - lo).toNat = d + 1 := by omega
 have e2 : (hi + 1 - (lo + 1)).toNat = d := by omega
 rw [e1, e2, List.range_succ_eq_map]
 simp only [List.map_cons, List.map_map, List.cons.injEq]
 refine ⟨by simp, List.map_congr_left fun i _ => ?_⟩
 simp
 omega
theorem irange_snoc {lo hi : Int} (h : lo ≤ hi + 1) : irange lo (hi + 1) = irange lo hi ++ [hi + 1] := by
 unfold irange
 rw [show (hi + 1 + 1 - lo).toNat = (hi + 1 - lo).toNat + 1 from by omega, List.range_succ, List.map_append]
 congr 1
 simp
 omega
def fitB (b : Int × Int) (j : J) (p q : Int) : Bool :=
 if j.step then decide (j.lo * p ≤ 1000 * q) && decide (1000 * q ≤ j.hi * p) else decide (b.1 ≤ q - p) && decide (q - p ≤ b.2)
def fitAtB (b : Int × Int) (j : J) (x : Nat) (p q : Int) : Bool := if j.one = x then fitB b j p q else fitB b j q p
def beaten (b : Int × Int) (j : J) : J := if j.step then j else { j with lo := b.1, hi := b.2 }
theorem beaten_one (b : Int × Int) (j : J) : (beaten b j).one = j.one := by unfold beaten; split <;> rfl
theorem beaten_two (b : Int × Int) (j : J) : (beaten b j).two = j.two := by unfold beaten; split <;> rfl
theorem fitB_iff (b : Int × Int) (j : J) (p q : Int) : fitB b j p q = true ↔ fits (beaten b j) p q := by
 unfold fitB fits beaten
 by_cases h : j.step = true
 ·simp [h]
 ·simp [h]
theorem fitAtB_iff (b : Int × Int) (j : J) (x : Nat) (p q : Int) : fitAtB b j x p q = true ↔ FitsAt (beaten b j) x p q := by
 unfold fitAtB FitsAt
 rw [beaten_one]
 split
 ·exact fitB_iff b j p q
 ·exact fitB_iff b j q p
def nbr1 (x : Nat) (j : J) : List (Nat × J) := (if j.one = x then [(j.two, j)] else []) ++ (if j.two = x then [(j.one, j)] else [])
def nbrs (js : List J) (left : Nat → Bool) (x : Nat) : List (Nat × J) := js.flatMap fun j => if left j.one || left j.two then [] else nbr1 x j
theorem mem_nbr1 {x o : Nat} {j k : J} : (o, k) ∈ nbr1 x j ↔ k = j ∧ Joins j x o := by
 unfold nbr1 Joins
 by_cases h1 : j.one = x <;> by_cases h2 : j.two = x <;> simp [h1, h2, eq_comm, and_comm]
theorem mem_nbrs {js : List J} {left : Nat → Bool} {x o : Nat} {k : J} : (o, k) ∈ nbrs js left x ↔ k ∈ js ∧ left k.one = false ∧ left k.two = false ∧ Joins k x o := by
 unfold nbrs
 rw [List.mem_flatMap]
 constructor
 ·rintro ⟨j, hj, h⟩
  split at h
  ·cases h
  ·rename_i hl
   obtain ⟨rfl, h⟩ := mem_nbr1.1 h
   simp only [Bool.or_eq_true, not_or, Bool.not_eq_true] at hl
   exact ⟨hj, hl.1, hl.2, h⟩
 ·rintro ⟨hj, h1, h2, h⟩
  exact ⟨k, hj, by rw [h1, h2]; exact mem_nbr1.2 ⟨rfl, h⟩⟩
def setF (js : List J) (left : Nat → Bool) (b : Int × Int) (lo hi : Nat → Int) (par : Nat → Int) (canV : Nat → Int → Bool) : Nat → Nat → Int → List Int → List Int
 | 0, _, _, l => l
 | f + 1, x, p, l => (nbrs js left x).foldl (fun l oj => if (oj.1 : Int) = par x then l else match (irange (lo oj.1) (hi oj.1)).find? (fun q => fitAtB b oj.2 x p q && canV oj.1 q) with | none => l | some q => setF js left b lo hi par canV f oj.1 q l) (l.set x p)
def markF (js : List J) (left : Nat → Bool) : Nat → Nat → List Bool → List Bool
 | 0, _, m => m
 | f + 1, x, m => (nbrs js left x).foldl (fun m oj => if m.getD oj.1 false then m else markF js left f oj.1 m) (m.set x true)
def loopF (js : List J) (left : Nat → Bool) (b : Int × Int) (lo hi : Nat → Int) (par : Nat → Int) (canV : Nat → Int → Bool) (f n : Nat) : Nat → Nat → List Int → List Bool → Option (List Int)
 | 0, _, l, _ => some l
 | d + 1, k, l, m =>
  if m.getD k false then loopF js left b lo hi par canV f n d (k + 1) (if left k then l.set k (lo k) else l) m
  else match (irange (lo k) (hi k)).find? (canV k) with
   | none => none
   | some p => loopF js left b lo hi par canV f n d (k + 1) (setF js left b lo hi par canV f k p l) (markF js left f k m)
end Tune
namespace Tune
structure Plan (n : Nat) (js : List J) (left : Nat → Bool) (b : Int × Int) (lo hi : Nat → Int) (ok : Nat → Int → Bool) (par : Nat → Int) (rank : Nat → Nat) (canV : Nat → Int → Bool) : Prop where
 lt : ∀ x, ∀ oj ∈ nbrs js left x, oj.1 < n
 child : ∀ x, x < n → ∀ oj ∈ nbrs js left x, (oj.1 : Int) ≠ par x → par oj.1 = x ∧ rank oj.1 < rank x
 can : ∀ x, x < n → left x = false → ∀ p, lo x ≤ p → p ≤ hi x → canV x p = (ok x p && (nbrs js left x).all fun oj => decide ((oj.1 : Int) = par x) || (irange (lo oj.1) (hi oj.1)).any fun q => fitAtB b oj.2 x p q && canV oj.1 q)
theorem nbrs_append (js js' : List J) (left : Nat → Bool) (x : Nat) : nbrs (js ++ js') left x = nbrs js left x ++ nbrs js' left x := by unfold nbrs; rw [List.flatMap_append]
theorem nbrs_one (j : J) (left : Nat → Bool) (x : Nat) : nbrs [j] left x = if left j.one || left j.two then [] else nbr1 x j := by unfold nbrs; simp
theorem nbrs_left {js : List J} {left : Nat → Bool} {x : Nat} {oj : Nat × J} (h : oj ∈ nbrs js left x) : left x = false ∧ left oj.1 = false := by
 obtain ⟨o, j⟩ := oj
 obtain ⟨_, h1, h2, h3⟩ := mem_nbrs.1 h
 rcases h3 with ⟨h3, h4⟩ | ⟨h3, h4⟩
 ·rw [← h3, ← h4]; exact ⟨h1, h2⟩
 ·rw [← h3, ← h4]; exact ⟨h2, h1⟩
theorem nbrs_nodup {js : List J} {g : Nat → Nat} (h : Forest js g) (left : Nat → Bool) (x : Nat) : ((nbrs js left x).map (·.1)).Nodup := by
 induction h with
 | nil => simp [nbrs]
 | @snoc js g j hf hne ih =>
  rw [nbrs_append, List.map_append, List.nodup_append]
  refine ⟨ih, ?_, ?_⟩
  ·rw [nbrs_one]
   split
   ·simp
   ·unfold nbr1
    by_cases h1 : j.one = x <;> by_cases h2 : j.two = x
    ·exact absurd (by rw [h1, h2]) hne
    all_goals simp [h1, h2]
  ·intro a ha c hc e
   subst e
   simp only [List.mem_map] at ha hc
   obtain ⟨⟨o, k⟩, hk, rfl⟩ := ha
   obtain ⟨⟨o', k'⟩, hk', e⟩ := hc
   simp only at e
   subst e
   obtain ⟨h1, _, _, h2⟩ := mem_nbrs.1 hk
   obtain ⟨h3, _, _, h4⟩ := mem_nbrs.1 hk'
   have e1 := hf.same (h2.adj h1)
   rw [List.mem_singleton] at h3
   subst h3
   rcases h4 with ⟨h4, h5⟩ | ⟨h4, h5⟩
   ·exact hne (by rw [h4, h5]; exact e1)
   ·exact hne (by rw [h4, h5]; exact e1.symm)
section
variable {n : Nat} {js : List J} {left : Nat → Bool} {b : Int × Int} {lo hi : Nat → Int} {ok : Nat → Int → Bool} {par : Nat → Int} {rank : Nat → Nat} {canV : Nat → Int → Bool}
def Child (js : List J) (left : Nat → Bool) (par : Nat → Int) (x o : Nat) (j : J) : Prop := (o, j) ∈ nbrs js left x ∧ (o : Int) ≠ par x
inductive Desc (js : List J) (left : Nat → Bool) (par : Nat → Int) : Nat → Nat → Prop
 | refl (x : Nat) : Desc js left par x x
 | step {x o y : Nat} {j : J} : Child js left par x o j → Desc js left par o y → Desc js left par x y
theorem Desc.snoc {x y o : Nat} {j : J} (h : Desc js left par x y) (hc : Child js left par y o j) : Desc js left par x o := by
 induction h with
 | refl x => exact .step hc (.refl _)
 | step h _ ih => exact .step h (ih hc)
structure Depths (n : Nat) (js : List J) (left : Nat → Bool) (par : Nat → Int) (depth : Nat → Nat) : Prop where
 child : ∀ x, x < n → ∀ o j, Child js left par x o j → par o = x ∧ depth o = depth x + 1 ∧ o < n
 nodup : ∀ x, ((nbrs js left x).map (·.1)).Nodup
theorem Desc.lt {depth : Nat → Nat} (hd : Depths n js left par depth) {x y : Nat} (h : Desc js left par x y) (hx : x < n) : y < n := by
 induction h with
 | refl x => exact hx
 | step h _ ih => exact ih (hd.child _ hx _ _ h).2.2
def up (par : Nat → Int) : Nat → Nat → Int
 | 0, y => y
 | d + 1, y => if par y < 0 then -1 else up par d (par y).toNat
theorem Desc.up {depth : Nat → Nat} (hd : Depths n js left par depth) {x y : Nat} (h : Desc js left par x y) (hx : x < n) : ∃ d, depth y = depth x + d ∧ up par d y = x := by
 induction h with
 | refl x => exact ⟨0, rfl, rfl⟩
 | @step x o y j h h2 ih =>
  obtain ⟨h3, h4, h5⟩ := hd.child _ hx _ _ h
  obtain ⟨d, e1, e2⟩ := ih h5
  refine ⟨d + 1, by omega, ?_⟩
  clear h2 ih
  have main : ∀ d y, Tune.up par d y = (o : Int) → Tune.up par (d + 1) y = (x : Int) := by
   intro d
   induction d with
   | zero =>
    intro y hy
    simp only [Tune.up] at hy ⊢
    have : y = o := by omega
    subst this
    rw [h3, if_neg (by omega)]
    simp
   | succ d ihd =>
    intro y hy
    rw [Tune.up] at hy ⊢
    split at hy
    ·omega
    ·rename_i hn
     rw [if_neg hn]
     exact ihd _ hy
  exact main d y e2
theorem Desc.same {depth : Nat → Nat} (hd : Depths n js left par depth) {x x' y : Nat} (h : Desc js left par x y) (h' : Desc js left par x' y) (hx : x < n) (hx' : x' < n) (e : depth x = depth x') : x = x' := by
 obtain ⟨d, e1, e2⟩ := h.up hd hx
 obtain ⟨d', e3, e4⟩ := h'.up hd hx'
 have : d = d' := by omega
 subst this
 omega
theorem Desc.above {depth : Nat → Nat} (hd : Depths n js left par depth) {x y : Nat} (h : Desc js left par x y) (hx : x < n) : depth x ≤ depth y := by
 obtain ⟨d, e1, _⟩ := h.up hd hx
 omega
theorem getD_set_same {l : List Int} {x : Nat} (h : x < l.length) (p z : Int) : (l.set x p).getD x z = p := by
 simp [h]
theorem getD_set_other {α : Type} {l : List α} {x y : Nat} (h : x ≠ y) (p z : α) : (l.set x p).getD y z = l.getD y z := by
 simp [List.getElem?_set_ne h]
theorem setF_spec {depth : Nat → Nat} (hp : Plan n js left b lo hi ok par rank canV) (hd : Depths n js left par depth) : ∀ (f x : Nat) (p : Int) (l : List Int), rank x < f → x < n → left x = false → l.length = n → canV x p = true → lo x ≤ p → p ≤ hi x →
  let l' := setF js left b lo hi par canV f x p l
  l'.length = n ∧ (∀ y, ¬ Desc js left par x y → l'.getD y 0 = l.getD y 0) ∧ l'.getD x 0 = p ∧ (∀ y, Desc js left par x y → canV y (l'.getD y 0) = true ∧ lo y ≤ l'.getD y 0 ∧ l'.getD y 0 ≤ hi y ∧ ∀ o j, Child js left par y o j → fitAtB b j y (l'.getD y 0) (l'.getD o 0) = true) := by
 intro f
 induction f with
 | zero => intro x p l h; omega
 | succ f ih =>
  intro x p l hr hx hlx hl hc hlo hhi
  simp only [setF]
  have hcan := hp.can x hx hlx p hlo hhi
  rw [hc] at hcan
  have hcan2 : ∀ oj ∈ nbrs js left x, (oj.1 : Int) ≠ par x → ∃ q ∈ irange (lo oj.1) (hi oj.1), (fitAtB b oj.2 x p q && canV oj.1 q) = true := by
   intro oj ho hne
   have h := hcan.symm
   simp only [Bool.and_eq_true, List.all_eq_true] at h
   have h := h.2 oj ho
   rw [Bool.or_eq_true, decide_eq_true_eq] at h
   exact List.any_eq_true.1 (h.resolve_left hne)
  have main : ∀ (rest pre : List (Nat × J)) (l1 : List Int), pre ++ rest = nbrs js left x →
    (l1.length = n ∧ (∀ y, ¬ Desc js left par x y → l1.getD y 0 = l.getD y 0) ∧ l1.getD x 0 = p ∧ ∀ oj ∈ pre, (oj.1 : Int) ≠ par x → fitAtB b oj.2 x p (l1.getD oj.1 0) = true ∧ ∀ y, Desc js left par oj.1 y → canV y (l1.getD y 0) = true ∧ lo y ≤ l1.getD y 0 ∧ l1.getD y 0 ≤ hi y ∧ ∀ o j, Child js left par y o j → fitAtB b j y (l1.getD y 0) (l1.getD o 0) = true) →
    let l' := rest.foldl (fun l oj => if (oj.1 : Int) = par x then l else match (irange (lo oj.1) (hi oj.1)).find? (fun q => fitAtB b oj.2 x p q && canV oj.1 q) with | none => l | some q => setF js left b lo hi par canV f oj.1 q l) l1
    l'.length = n ∧ (∀ y, ¬ Desc js left par x y → l'.getD y 0 = l.getD y 0) ∧ l'.getD x 0 = p ∧ ∀ oj ∈ nbrs js left x, (oj.1 : Int) ≠ par x → fitAtB b oj.2 x p (l'.getD oj.1 0) = true ∧ ∀ y, Desc js left par oj.1 y → canV y (l'.getD y 0) = true ∧ lo y ≤ l'.getD y 0 ∧ l'.getD y 0 ≤ hi y ∧ ∀ o j, Child js left par y o j → fitAtB b j y (l'.getD y 0) (l'.getD o 0) = true := by
   intro rest
   induction rest with
   | nil =>
    intro pre l1 hpre h
    rw [List.append_nil] at hpre
    rw [hpre] at h
    exact h
   | cons oj rest ihr =>
    intro pre l1 hpre h
    rw [List.foldl_cons]
    have hmem : oj ∈ nbrs js left x := by rw [← hpre]; simp
    have hnext : (pre ++ [oj]) ++ rest = nbrs js left x := by rw [List.append_assoc]; exact hpre
    by_cases hpar : (oj.1 : Int) = par x
    ·rw [if_pos hpar]
     refine ihr (pre ++ [oj]) l1 hnext ⟨h.1, h.2.1, h.2.2.1, fun oj' hm hne => ?_⟩
     rcases List.mem_append.1 hm with hm | hm
     ·exact h.2.2.2 oj' hm hne
     ·rw [List.mem_singleton] at hm
      subst hm
      exact absurd hpar hne
    ·rw [if_neg hpar]
     have hch : Child js left par x oj.1 oj.2 := ⟨hmem, hpar⟩
     obtain ⟨hpo, hdo, hon⟩ := hd.child x hx _ _ hch
     have hro := (hp.child x hx oj hmem hpar).2
     obtain ⟨q0, hq0, hq0'⟩ := hcan2 oj hmem hpar
     cases hfi : (irange (lo oj.1) (hi oj.1)).find? (fun q => fitAtB b oj.2 x p q && canV oj.1 q) with
     | none => exact absurd hq0' (by have := List.find?_eq_none.1 hfi q0 hq0; simpa using this)
     | some q =>
      have hq := List.find?_some hfi
      have hqr := mem_irange.1 (List.mem_of_find?_eq_some hfi)
      rw [Bool.and_eq_true] at hq
      have hs := ih oj.1 q l1 (by omega) hon (nbrs_left hmem).2 h.1 hq.2 hqr.1 hqr.2
      simp only at hs ⊢
      obtain ⟨s1, s2, s3, s4⟩ := hs
      have notx : ¬ Desc js left par oj.1 x := fun hde => by have := hde.above hd hon; omega
      refine ihr (pre ++ [oj]) _ hnext ⟨s1, fun y hy => ?_, ?_, fun oj' hm hne => ?_⟩
      ·rw [s2 y (fun hde => hy (.step hch hde))]
       exact h.2.1 y hy
      ·rw [s2 x notx]
       exact h.2.2.1
      ·rcases List.mem_append.1 hm with hm | hm
       ·have hmem' : oj' ∈ nbrs js left x := by rw [← hpre]; exact List.mem_append.2 (.inl hm)
        obtain ⟨_, hdo', hon'⟩ := hd.child x hx _ _ (⟨hmem', hne⟩ : Child js left par x oj'.1 oj'.2)
        have hdiff : oj'.1 ≠ oj.1 := by
         have hnd := hd.nodup x
         rw [← hpre, List.map_append, List.nodup_append] at hnd
         exact hnd.2.2 _ (List.mem_map.2 ⟨oj', hm, rfl⟩) _ (by simp)
        have hdis : ∀ y, Desc js left par oj'.1 y → ¬ Desc js left par oj.1 y := fun y h1 h2 => hdiff (h1.same hd h2 hon' hon (by omega))
        obtain ⟨g1, g2⟩ := h.2.2.2 oj' hm hne
        refine ⟨by rw [s2 _ (hdis _ (.refl _))]; exact g1, fun y hy => ?_⟩
        obtain ⟨k1, k2, k3, k4⟩ := g2 y hy
        rw [s2 y (hdis y hy)]
        refine ⟨k1, k2, k3, fun o j hcj => ?_⟩
        rw [s2 o (hdis o (hy.snoc hcj))]
        exact k4 o j hcj
       ·rw [List.mem_singleton] at hm
        subst hm
        exact ⟨by rw [s3]; exact hq.1, s4⟩
  have h0 := main (nbrs js left x) [] (l.set x p) rfl ⟨by simp [hl], fun y hy => getD_set_other (fun e => hy (by subst e; exact .refl _)) _ _, getD_set_same (by omega) _ _, fun oj hm => by cases hm⟩
  simp only at h0 ⊢
  obtain ⟨r1, r2, r3, r4⟩ := h0
  refine ⟨r1, r2, r3, fun y hy => ?_⟩
  cases hy with
  | refl =>
   rw [r3]
   exact ⟨hc, hlo, hhi, fun o j hcj => (r4 (o, j) hcj.1 hcj.2).1⟩
  | @step _ o _ j hcj hde => exact (r4 (o, j) hcj.1 hcj.2).2 y hde
theorem markF_mono : ∀ (f x : Nat) (m : List Bool) (y : Nat), m.getD y false = true → (markF js left f x m).getD y false = true := by
 intro f
 induction f with
 | zero => intro x m y h; exact h
 | succ f ih =>
  intro x m y h
  simp only [markF]
  have main : ∀ (rest : List (Nat × J)) (m : List Bool), m.getD y false = true → (rest.foldl (fun m oj => if m.getD oj.1 false then m else markF js left f oj.1 m) m).getD y false = true := by
   intro rest
   induction rest with
   | nil => exact fun m h => h
   | cons oj rest ihr =>
    intro m h
    rw [List.foldl_cons]
    refine ihr _ ?_
    split
    ·exact h
    ·exact ih _ _ _ h
  refine main _ _ ?_
  by_cases e : x = y
  ·subst e
   have hx : x < m.length := by
    by_cases hx : x < m.length
    ·exact hx
    ·rw [List.getD_eq_getElem?_getD, List.getElem?_eq_none (by omega)] at h; cases h
   simp [hx]
  ·rw [getD_set_other e]; exact h
theorem markF_length : ∀ (f x : Nat) (m : List Bool), (markF js left f x m).length = m.length := by
 intro f
 induction f with
 | zero => intro x m; rfl
 | succ f ih =>
  intro x m
  simp only [markF]
  have main : ∀ (rest : List (Nat × J)) (m : List Bool), (rest.foldl (fun m oj => if m.getD oj.1 false then m else markF js left f oj.1 m) m).length = m.length := by
   intro rest
   induction rest with
   | nil => exact fun m => rfl
   | cons oj rest ihr =>
    intro m
    rw [List.foldl_cons, ihr]
    split
    ·rfl
    ·exact ih _ _
  rw [main, List.length_set]
theorem markF_spec {depth : Nat → Nat} (hp : Plan n js left b lo hi ok par rank canV) (hd : Depths n js left par depth) : ∀ (f x : Nat) (m : List Bool), rank x < f → x < n → n ≤ m.length → (0 ≤ par x → m.getD (par x).toNat false = true) → (∀ y, Desc js left par x y → m.getD y false = false) →
  ∀ y, (markF js left f x m).getD y false = true ↔ m.getD y false = true ∨ Desc js left par x y := by
 intro f
 induction f with
 | zero => intro x m h; omega
 | succ f ih =>
  intro x m hr hx hl hpm hun
  simp only [markF]
  have main : ∀ (rest pre : List (Nat × J)) (m1 : List Bool), pre ++ rest = nbrs js left x → m1.length = m.length →
    (∀ y, m1.getD y false = true ↔ m.getD y false = true ∨ y = x ∨ ∃ oj ∈ pre, (oj.1 : Int) ≠ par x ∧ Desc js left par oj.1 y) →
    ∀ y, (rest.foldl (fun m oj => if m.getD oj.1 false then m else markF js left f oj.1 m) m1).getD y false = true ↔ m.getD y false = true ∨ y = x ∨ ∃ oj ∈ nbrs js left x, (oj.1 : Int) ≠ par x ∧ Desc js left par oj.1 y := by
   intro rest
   induction rest with
   | nil =>
    intro pre m1 hpre _ h
    rw [List.append_nil] at hpre
    rw [hpre] at h
    exact h
   | cons oj rest ihr =>
    intro pre m1 hpre hlen h
    rw [List.foldl_cons]
    have hmem : oj ∈ nbrs js left x := by rw [← hpre]; simp
    have hnext : (pre ++ [oj]) ++ rest = nbrs js left x := by rw [List.append_assoc]; exact hpre
    by_cases hpar : (oj.1 : Int) = par x
    ·have hm1 : m1.getD oj.1 false = true := (h oj.1).2 (.inl (by have := hpm (by omega); rwa [← hpar, Int.toNat_natCast] at this))
     rw [if_pos hm1]
     refine ihr (pre ++ [oj]) m1 hnext hlen (fun y => (h y).trans ?_)
     constructor
     ·rintro (h1 | h1 | ⟨oj', h1, h2⟩)
      ·exact .inl h1
      ·exact .inr (.inl h1)
      ·exact .inr (.inr ⟨oj', List.mem_append.2 (.inl h1), h2⟩)
     ·rintro (h1 | h1 | ⟨oj', h1, h2, h3⟩)
      ·exact .inl h1
      ·exact .inr (.inl h1)
      ·rcases List.mem_append.1 h1 with h1 | h1
       ·exact .inr (.inr ⟨oj', h1, h2, h3⟩)
       ·rw [List.mem_singleton] at h1
        subst h1
        exact absurd hpar h2
    ·have hch : Child js left par x oj.1 oj.2 := ⟨hmem, hpar⟩
     obtain ⟨hpo, hdo, hon⟩ := hd.child x hx _ _ hch
     have hro := (hp.child x hx oj hmem hpar).2
     have hun1 : ∀ y, Desc js left par oj.1 y → m1.getD y false = false := by
      intro y hy
      cases hv : m1.getD y false with
      | false => rfl
      | true =>
       exfalso
       rcases (h y).1 hv with h1 | h1 | ⟨oj', h1, h2, h3⟩
       ·rw [hun y (.step hch hy)] at h1
        cases h1
       ·subst h1
        have := hy.above hd hon
        omega
       ·have hmem' : oj' ∈ nbrs js left x := by rw [← hpre]; exact List.mem_append.2 (.inl h1)
        obtain ⟨_, hdo', hon'⟩ := hd.child x hx _ _ (⟨hmem', h2⟩ : Child js left par x oj'.1 oj'.2)
        have hdiff : oj'.1 ≠ oj.1 := by
         have hnd := hd.nodup x
         rw [← hpre, List.map_append, List.nodup_append] at hnd
         exact hnd.2.2 _ (List.mem_map.2 ⟨oj', h1, rfl⟩) _ (by simp)
        exact hdiff (h3.same hd hy hon' hon (by omega))
     rw [hun1 _ (.refl _)]
     have hs := ih oj.1 m1 (by omega) hon (by omega) (fun _ => by rw [hpo, Int.toNat_natCast]; exact (h x).2 (.inr (.inl rfl))) hun1
     simp only [Bool.false_eq_true, if_false]
     refine ihr (pre ++ [oj]) _ hnext (by rw [markF_length]; exact hlen) (fun y => (hs y).trans ?_)
     rw [h y]
     constructor
     ·rintro ((h1 | h1 | ⟨oj', h1, h2⟩) | h1)
      ·exact .inl h1
      ·exact .inr (.inl h1)
      ·exact .inr (.inr ⟨oj', List.mem_append.2 (.inl h1), h2⟩)
      ·exact .inr (.inr ⟨oj, by simp, hpar, h1⟩)
     ·rintro (h1 | h1 | ⟨oj', h1, h2, h3⟩)
      ·exact .inl (.inl h1)
      ·exact .inl (.inr (.inl h1))
      ·rcases List.mem_append.1 h1 with h1 | h1
       ·exact .inl (.inr (.inr ⟨oj', h1, h2, h3⟩))
       ·rw [List.mem_singleton] at h1
        subst h1
        exact .inr h3
  intro y
  rw [main (nbrs js left x) [] (m.set x true) rfl (by simp) (fun y => ?_) y]
  ·constructor
   ·rintro (h1 | h1 | ⟨oj, h1, h2, h3⟩)
    ·exact .inl h1
    ·exact .inr (h1 ▸ .refl _)
    ·exact .inr (.step (⟨h1, h2⟩ : Child js left par x oj.1 oj.2) h3)
   ·rintro (h1 | h1)
    ·exact .inl h1
    ·cases h1 with
     | refl => exact .inr (.inl rfl)
     | @step _ o _ j hcj hde => exact .inr (.inr ⟨(o, j), hcj.1, hcj.2, hde⟩)
  ·by_cases e : x = y
   ·subst e
    have : x < m.length := by omega
    simp [this]
   ·rw [getD_set_other e]
    simp [Ne.symm e]
end
end Tune
namespace Tune
theorem least_of (p : Nat → Prop) (x : Nat) (h : p x) : ∃ y, p y ∧ ∀ z, p z → y ≤ z := by
 induction x using Nat.strongRecOn with
 | _ x ih =>
  by_cases hx : ∃ z, z < x ∧ p z
  ·obtain ⟨z, h1, h2⟩ := hx
   exact ih z h1 h2
  ·exact ⟨x, h, fun z hz => by
    by_cases e : z < x
    ·exact absurd ⟨z, e, hz⟩ hx
    ·omega⟩
def active (b : Int × Int) (js : List J) (left : Nat → Bool) : List J := (js.filter fun j => !(left j.one || left j.two)).map (beaten b)
theorem mem_active {b : Int × Int} {js : List J} {left : Nat → Bool} {k : J} : k ∈ active b js left ↔ ∃ j ∈ js, left j.one = false ∧ left j.two = false ∧ k = beaten b j := by
 unfold active
 rw [List.mem_map]
 constructor
 ·rintro ⟨j, hj, rfl⟩
  rw [List.mem_filter] at hj
  have h := hj.2
  simp only [Bool.not_eq_true', Bool.or_eq_false_iff] at h
  exact ⟨j, hj.1, h.1, h.2, rfl⟩
 ·rintro ⟨j, hj, h1, h2, rfl⟩
  exact ⟨j, List.mem_filter.2 ⟨hj, by rw [h1, h2]; rfl⟩, rfl⟩
theorem joins_beaten {b : Int × Int} {j : J} {x o : Nat} : Joins (beaten b j) x o ↔ Joins j x o := by unfold Joins; rw [beaten_one, beaten_two]
theorem nbrs_active (b : Int × Int) (js : List J) (left : Nat → Bool) (x : Nat) : (nbrs (active b js left) (fun _ => false) x).map (·.1) = (nbrs js left x).map (·.1) := by
 induction js with
 | nil => rfl
 | cons j js ih =>
  have h1 : nbrs (j :: js) left x = nbrs [j] left x ++ nbrs js left x := nbrs_append [j] js left x
  rw [h1, List.map_append, ← ih, nbrs_one]
  unfold active
  rw [List.filter_cons]
  by_cases hl : (left j.one || left j.two) = true
  ·rw [hl]; rfl
  ·rw [Bool.not_eq_true] at hl
   rw [hl]
   simp only [Bool.not_false, if_true, List.map_cons, Bool.false_eq_true, if_false]
   have h2 : nbrs (beaten b j :: (js.filter fun j => !(left j.one || left j.two)).map (beaten b)) (fun _ => false) x = nbrs [beaten b j] (fun _ => false) x ++ nbrs ((js.filter fun j => !(left j.one || left j.two)).map (beaten b)) (fun _ => false) x := nbrs_append [_] _ _ x
   rw [h2, List.map_append]
   congr 1
   rw [nbrs_one]
   unfold nbr1
   rw [beaten_one, beaten_two]
   by_cases h3 : j.one = x <;> by_cases h4 : j.two = x <;> simp [h3, h4]
def Tun (n : Nat) (js : List J) (left : Nat → Bool) (b : Int × Int) (lo hi : Nat → Int) (ok : Nat → Int → Bool) (l : Nat → Int) : Prop :=
 (∀ x, x < n → left x = false → lo x ≤ l x ∧ l x ≤ hi x ∧ ok x (l x) = true) ∧ ∀ j ∈ js, left j.one = false → left j.two = false → fitB b j (l j.one) (l j.two) = true
def Dom (n : Nat) (left : Nat → Bool) (lo hi : Nat → Int) (ok : Nat → Int → Bool) (x : Nat) (p : Int) : Prop := x < n → left x = false → lo x ≤ p ∧ p ≤ hi x ∧ ok x p = true
structure Full (n : Nat) (js : List J) (left : Nat → Bool) (b : Int × Int) (lo hi : Nat → Int) (ok : Nat → Int → Bool) (par : Nat → Int) (rank depth : Nat → Nat) (canV : Nat → Int → Bool) : Prop where
 plan : Plan n js left b lo hi ok par rank canV
 depths : Depths n js left par depth
 root : ∀ x, x < n → left x = false → ∃ r, r ≤ x ∧ par r < 0 ∧ left r = false ∧ Desc js left par r x
 zero : ∀ x, par x < 0 → depth x = 0
 back : ∀ x o : Nat, par x = o → depth x = depth o + 1
 dom : ∀ x p, x < n → left x = false → canV x p = true → ok x p = true
 cmpl : ∀ l x, x < n → left x = false → par x < 0 → Tun n js left b lo hi ok l → canV x (l x) = true
open Classical in
theorem exists_full (n : Nat) (js : List J) (left : Nat → Bool) (b : Int × Int) (lo hi : Nat → Int) (ok : Nat → Int → Bool) (hlt : ∀ j ∈ js, j.one < n ∧ j.two < n) (g : Nat → Nat) (hf : Forest (active b js left) g) :
  ∃ par rank depth canV, Full n js left b lo hi ok par rank depth canV := by
 have hr : ∀ c, ∃ y, (∃ x, g x = c) → g y = c ∧ ∀ z, g z = c → y ≤ z := fun c => by
  by_cases h : ∃ x, g x = c
  ·obtain ⟨x, hx⟩ := h
   obtain ⟨y, h1, h2⟩ := least_of (fun x => g x = c) x hx
   exact ⟨y, fun _ => ⟨h1, h2⟩⟩
  ·exact ⟨0, fun e => absurd e h⟩
 obtain ⟨r, hr⟩ : ∃ r : Nat → Nat, ∀ c, (∃ x, g x = c) → g (r c) = c ∧ ∀ z, g z = c → r c ≤ z := ⟨fun c => (hr c).choose, fun c => (hr c).choose_spec⟩
 obtain ⟨par, rank, depth, p1, p2, p4, p3⟩ := hf.rooted r (fun x => (hr _ ⟨x, rfl⟩).1)
 obtain ⟨parI, hparI⟩ : ∃ parI : Nat → Int, ∀ x, parI x = match par x with | none => -1 | some o => (o : Int) := ⟨_, fun _ => rfl⟩
 have pn : ∀ x, parI x < 0 ↔ par x = none := fun x => by
  rw [hparI]
  cases par x with
  | none => simp
  | some o => (simp <;> omega)
 have ps : ∀ x (o : Nat), parI x = o ↔ par x = some o := fun x o => by
  rw [hparI]
  cases par x with
  | none => (simp <;> omega)
  | some o' => (simp <;> omega)
 have hnb : ∀ x, ∀ oj ∈ nbrs js left x, beaten b oj.2 ∈ active b js left ∧ Joins (beaten b oj.2) x oj.1 := fun x oj h => by
  obtain ⟨o, j⟩ := oj
  obtain ⟨h1, h2, h3, h4⟩ := mem_nbrs.1 h
  exact ⟨mem_active.2 ⟨j, h1, h2, h3, rfl⟩, joins_beaten.2 h4⟩
 have hbn : ∀ k ∈ active b js left, ∀ x o, Joins k x o → ∃ j, (o, j) ∈ nbrs js left x ∧ k = beaten b j := fun k hk x o hj => by
  obtain ⟨j, h1, h2, h3, rfl⟩ := mem_active.1 hk
  exact ⟨j, mem_nbrs.2 ⟨h1, h2, h3, joins_beaten.1 hj⟩, rfl⟩
 have hltn : ∀ x, ∀ oj ∈ nbrs js left x, oj.1 < n := fun x oj h => by
  obtain ⟨o, j⟩ := oj
  obtain ⟨h1, _, _, h4⟩ := mem_nbrs.1 h
  rcases h4 with ⟨_, h4⟩ | ⟨_, h4⟩
  ·rw [← h4]; exact (hlt j h1).2
  ·rw [← h4]; exact (hlt j h1).1
 have hchild : ∀ x, ∀ oj ∈ nbrs js left x, (oj.1 : Int) ≠ parI x → par oj.1 = some x ∧ rank oj.1 < rank x := fun x oj h hne => by
  obtain ⟨h1, h2⟩ := hnb x oj h
  exact p3 _ h1 x oj.1 h2 (fun e => hne ((ps x oj.1).2 e.symm).symm)
 have hdep : Depths n js left parI depth := ⟨fun x hx o j hc => by
  obtain ⟨h1, _⟩ := hchild x (o, j) hc.1 hc.2
  exact ⟨(ps o x).2 h1, (p2 o x h1).2, hltn x (o, j) hc.1⟩, fun x => by
  rw [← nbrs_active b]
  exact nbrs_nodup hf _ _⟩
 have hcmpl : ∀ l x, Tun n js left b lo hi ok l → Can (active b js left) (Dom n left lo hi ok) x (l x) (par x) := fun l x ht => by
  refine Can.complete (fun y hy hly => ht.1 y hy hly) (fun k hk => ?_) (hf.ends x (par x))
  obtain ⟨j, h1, h2, h3, rfl⟩ := mem_active.1 hk
  rw [beaten_one, beaten_two]
  exact (fitB_iff b j _ _).1 (ht.2 j h1 h2 h3)
 refine ⟨parI, rank, depth, fun x p => decide (Can (active b js left) (Dom n left lo hi ok) x p (par x)), ⟨⟨hltn, fun x hx oj h hne => ?_, fun x hx hl p hlo hhi => ?_⟩, hdep, fun x hx hl => ?_, fun x h => (p4 x ((pn x).1 h)).1, fun x o h => (p2 x o ((ps x o).1 h)).2 , fun x p hx hl hc => ?_, fun l x hx hl hp ht => decide_eq_true (hcmpl l x ht)⟩⟩
 ·obtain ⟨h1, h2⟩ := hchild x oj h hne
  exact ⟨(ps _ _).2 h1, h2⟩
 ·rw [Bool.eq_iff_iff, decide_eq_true_eq, Bool.and_eq_true, List.all_eq_true]
  constructor
  ·intro h
   cases h with
   | mk f hD h1 h2 =>
    refine ⟨(hD hx hl).2.2, fun oj hm => ?_⟩
    rw [Bool.or_eq_true, decide_eq_true_eq]
    by_cases hne : (oj.1 : Int) = parI x
    ·exact .inl hne
    ·obtain ⟨g1, g2⟩ := hnb x oj hm
     have g3 : some oj.1 ≠ par x := fun e => hne ((ps x oj.1).2 e.symm).symm
     have g4 := h1 _ g1 _ g2 g3
     have g5 := h2 _ g1 _ g2 g3
     have g6 := Can.dom g5 (hltn x oj hm) (nbrs_left hm).2
     refine .inr (List.any_eq_true.2 ⟨f (beaten b oj.2), mem_irange.2 ⟨g6.1, g6.2.1⟩, ?_⟩)
     rw [Bool.and_eq_true, decide_eq_true_eq]
     refine ⟨(fitAtB_iff _ _ _ _ _).2 g4, ?_⟩
     rw [(hchild x oj hm hne).1]
     exact g5
  ·rintro ⟨hok, hall⟩
   have hc : ∀ k : J, ∃ q, ∀ o, k ∈ active b js left → Joins k x o → some o ≠ par x → FitsAt k x p q ∧ Can (active b js left) (Dom n left lo hi ok) o q (some x) := fun k => by
    by_cases hk : ∃ o, k ∈ active b js left ∧ Joins k x o ∧ some o ≠ par x
    ·obtain ⟨o, hk, hjo, ho⟩ := hk
     obtain ⟨j, hm, rfl⟩ := hbn k hk x o hjo
     have hne : (o : Int) ≠ parI x := fun e => ho ((ps x o).1 e.symm).symm
     have h := hall (o, j) hm
     rw [Bool.or_eq_true, decide_eq_true_eq] at h
     obtain ⟨q, hq1, hq2⟩ := List.any_eq_true.1 (h.resolve_left hne)
     rw [Bool.and_eq_true, decide_eq_true_eq, (hchild x (o, j) hm hne).1] at hq2
     refine ⟨q, fun o' _ hjo' _ => ⟨(fitAtB_iff _ _ _ _ _).1 hq2.1, ?_⟩⟩
     have : o' = o := by
      rcases hjo with ⟨a, b⟩ | ⟨a, b⟩ <;> rcases hjo' with ⟨c, d⟩ | ⟨c, d⟩
      ·rw [← d, b]
      ·rw [← d, a, ← b, c]
      ·rw [← d, a, ← b, c]
      ·rw [← d, b]
     rw [this]
     exact hq2.2
    ·exact ⟨0, fun o h1 h2 h3 => absurd ⟨o, h1, h2, h3⟩ hk⟩
   exact .mk (fun k => (hc k).choose) (fun _ _ => ⟨hlo, hhi, hok⟩) (fun k hk o hjo ho => ((hc k).choose_spec o hk hjo ho).1) (fun k hk o hjo ho => ((hc k).choose_spec o hk hjo ho).2)
 ·-- by how deep it is
  have main : ∀ d x, depth x = d → x < n → left x = false → Desc js left parI (r (g x)) x ∧ left (r (g x)) = false := by
   intro d
   induction d with
   | zero =>
    intro x hd hx hl
    have hpx : par x = Option.none := by
     cases h : par x with
     | none => rfl
     | some o => have := (p2 x o h).2; omega
    have := (p4 x hpx).2
    rw [← this]
    exact ⟨.refl _, hl⟩
   | succ d ih =>
    intro x hd hx hl
    cases h : par x with
    | none => have := (p4 x h).1; omega
    | some z =>
     obtain ⟨ha, hz⟩ := p2 x z h
     obtain ⟨k, hk, hj⟩ := ha
     have hjo : Joins k z x := by
      rcases hj with ⟨h1, h2⟩ | ⟨h1, h2⟩
      ·exact .inr ⟨h2, h1⟩
      ·exact .inl ⟨h2, h1⟩
     obtain ⟨j, hm, rfl⟩ := hbn k hk z x hjo
     have hne : (x : Int) ≠ parI z := fun e => by
      have := (p2 z x ((ps z x).1 e.symm)).2
      omega
     have hzn : z < n := by
      obtain ⟨h1, _, _, h4⟩ := mem_nbrs.1 hm
      rcases h4 with ⟨h4, _⟩ | ⟨h4, _⟩
      ·rw [← h4]; exact (hlt j h1).1
      ·rw [← h4]; exact (hlt j h1).2
     obtain ⟨g1, g2⟩ := ih z (by omega) hzn (nbrs_left hm).1
     have hg : g z = g x := hf.same (hjo.adj hk)
     rw [← hg]
     exact ⟨g1.snoc (⟨hm, hne⟩ : Child js left parI z x j), g2⟩
  obtain ⟨h1, h2⟩ := main (depth x) x rfl hx hl
  exact ⟨r (g x), (hr _ ⟨x, rfl⟩).2 x rfl, (pn _).2 (p1 x), h2, h1⟩
 ·exact (Can.dom (of_decide_eq_true hc) hx hl).2.2
section
variable {n : Nat} {js : List J} {left : Nat → Bool} {b : Int × Int} {lo hi : Nat → Int} {ok : Nat → Int → Bool} {par : Nat → Int} {rank depth : Nat → Nat} {canV : Nat → Int → Bool}
theorem loopF_spec (H : Full n js left b lo hi ok par rank depth canV) (hlt : ∀ j ∈ js, j.one < n ∧ j.two < n) (hne : ∀ j ∈ js, j.one ≠ j.two) {f : Nat} (hfu : ∀ x, x < n → rank x < f) : ∀ (d k : Nat) (l : List Int) (m : List Bool), k + d = n → l.length = n → n ≤ m.length →
  (∀ y, y < n → (m.getD y false = true ↔ left y = true ∨ ∃ r, r < k ∧ par r < 0 ∧ left r = false ∧ Desc js left par r y)) →
  (∀ r, r < k → par r < 0 → left r = false → ∀ y, Desc js left par r y → canV y (l.getD y 0) = true ∧ lo y ≤ l.getD y 0 ∧ l.getD y 0 ≤ hi y ∧ ∀ o j, Child js left par y o j → fitAtB b j y (l.getD y 0) (l.getD o 0) = true) →
  (∀ y, y < k → left y = true → l.getD y 0 = lo y) →
  match loopF js left b lo hi par canV f n d k l m with
  | none => ¬ ∃ l, Tun n js left b lo hi ok l
  | some l' => l'.length = n ∧ Tun n js left b lo hi ok (fun x => l'.getD x 0) ∧ ∀ y, y < n → left y = true → l'.getD y 0 = lo y := by
 have leftD : ∀ {x y}, Desc js left par x y → left x = false → left y = false := by
  intro x y h
  induction h with
  | refl x => exact fun h => h
  | step h _ ih => exact fun _ => ih (nbrs_left h.1).2
 have twoRoots : ∀ {r r' y}, r < n → r' < n → par r < 0 → par r' < 0 → Desc js left par r y → Desc js left par r' y → r = r' := fun h1 h2 h3 h4 h5 h6 => h5.same H.depths h6 h1 h2 (by rw [H.zero _ h3, H.zero _ h4])
 intro d
 induction d with
 | zero =>
  intro k l m hk hl hm h1 h2 h3
  have hkn : k = n := by omega
  subst hkn
  simp only [loopF]
  refine ⟨hl, ⟨fun x hx hlx => ?_, fun j hj hl1 hl2 => ?_⟩, h3⟩
  ·obtain ⟨r, g1, g2, g3, g4⟩ := H.root x hx hlx
   obtain ⟨e1, e2, e3, _⟩ := h2 r (by omega) g2 g3 x g4
   exact ⟨e2, e3, H.dom x _ hx hlx e1⟩
  ·obtain ⟨o1, o2⟩ := hlt j hj
   have hm1 : (j.two, j) ∈ nbrs js left j.one := mem_nbrs.2 ⟨hj, hl1, hl2, .inl ⟨rfl, rfl⟩⟩
   have hm2 : (j.one, j) ∈ nbrs js left j.two := mem_nbrs.2 ⟨hj, hl1, hl2, .inr ⟨rfl, rfl⟩⟩
   by_cases hp : (j.two : Int) = par j.one
   ·have hd := H.back j.one j.two hp.symm
    have hp2 : (j.one : Int) ≠ par j.two := fun e => by have := H.back j.two j.one e.symm; omega
    obtain ⟨r, g1, g2, g3, g4⟩ := H.root j.two o2 hl2
    have e := (h2 r (by omega) g2 g3 _ g4).2.2.2 j.one j ⟨hm2, hp2⟩
    unfold fitAtB at e
    rw [if_neg (hne j hj)] at e
    exact e
   ·obtain ⟨r, g1, g2, g3, g4⟩ := H.root j.one o1 hl1
    have e := (h2 r (by omega) g2 g3 _ g4).2.2.2 j.two j ⟨hm1, hp⟩
    unfold fitAtB at e
    rw [if_pos rfl] at e
    exact e
 | succ d ih =>
  intro k l m hk hl hm h1 h2 h3
  have hkn : k < n := by omega
  simp only [loopF]
  by_cases hmk : m.getD k false = true
  ·rw [hmk]
   simp only [if_true]
   have noroot : par k < 0 → left k = false → False := fun hp hlk => by
    rcases (h1 k hkn).1 hmk with h | ⟨r, g1, g2, g3, g4⟩
    ·rw [hlk] at h; cases h
    ·have := twoRoots (by omega) hkn g2 hp g4 (.refl k)
     omega
   refine ih (k + 1) _ m (by omega) (by split <;> simp [hl]) hm (fun y hy => (h1 y hy).trans ?_) (fun r hr hp hlr y hde => ?_) (fun y hy hly => ?_)
   ·constructor
    ·rintro (h | ⟨r, g1, g2⟩)
     ·exact .inl h
     ·exact .inr ⟨r, by omega, g2⟩
    ·rintro (h | ⟨r, g1, g2, g3, g4⟩)
     ·exact .inl h
     ·by_cases e : r = k
      ·subst e; exact (noroot g2 g3).elim
      ·exact .inr ⟨r, by omega, g2, g3, g4⟩
   ·have hrk : r ≠ k := fun e => by subst e; exact noroot hp hlr
    split
    ·rename_i hlk
     have hky : ∀ y, Desc js left par r y → k ≠ y := fun y h e => by
      subst e
      have := leftD h hlr
      rw [hlk] at this
      cases this
     rw [getD_set_other (hky y hde)]
     obtain ⟨e1, e2, e3, e4⟩ := h2 r (by omega) hp hlr y hde
     refine ⟨e1, e2, e3, fun o j hc => ?_⟩
     rw [getD_set_other (hky o (hde.snoc hc))]
     exact e4 o j hc
    ·exact h2 r (by omega) hp hlr y hde
   ·split
    ·by_cases e : k = y
     ·subst e; exact getD_set_same (by omega) _ _
     ·rw [getD_set_other e]; exact h3 y (by omega) hly
    ·rename_i hlk
     exact h3 y (by have : y ≠ k := fun e => hlk (e ▸ hly); omega) hly
  ·rw [Bool.not_eq_true] at hmk
   rw [hmk]
   simp only [Bool.false_eq_true, if_false]
   have hlk : left k = false := by
    cases h : left k with
    | false => rfl
    | true => have := (h1 k hkn).2 (.inl h); rw [hmk] at this; cases this
   have hpk : par k < 0 := by
    obtain ⟨r, g1, g2, g3, g4⟩ := H.root k hkn hlk
    by_cases e : r = k
    ·subst e; exact g2
    ·have := (h1 k hkn).2 (.inr ⟨r, by omega, g2, g3, g4⟩); rw [hmk] at this; cases this
   cases hfi : (irange (lo k) (hi k)).find? (canV k) with
   | none =>
    simp only
    rintro ⟨l', ht⟩
    have := List.find?_eq_none.1 hfi (l' k) (mem_irange.2 ⟨(ht.1 k hkn hlk).1, (ht.1 k hkn hlk).2.1⟩)
    exact this (H.cmpl l' k hkn hlk hpk ht)
   | some p =>
    simp only
    have hc := List.find?_some hfi
    have hr := mem_irange.1 (List.mem_of_find?_eq_some hfi)
    obtain ⟨s1, s2, s3, s4⟩ := setF_spec H.plan H.depths f k p l (hfu k hkn) hkn hlk hl hc hr.1 hr.2
    have hun : ∀ y, Desc js left par k y → m.getD y false = false := fun y hde => by
     have hyn := hde.lt H.depths hkn
     cases h : m.getD y false with
     | false => rfl
     | true =>
      rcases (h1 y hyn).1 h with h | ⟨r, g1, g2, g3, g4⟩
      ·have := leftD hde hlk; rw [h] at this; cases this
      ·have := twoRoots (by omega) hkn g2 hpk g4 hde
       omega
    have hms := markF_spec H.plan H.depths f k m (hfu k hkn) hkn hm (fun h => by omega) hun
    refine ih (k + 1) _ _ (by omega) s1 (by rw [markF_length]; exact hm) (fun y hy => (hms y).trans ?_) (fun r hr2 hp hlr y hde => ?_) (fun y hy hly => ?_)
    ·rw [h1 y hy]
     constructor
     ·rintro ((h | ⟨r, g1, g2⟩) | h)
      ·exact .inl h
      ·exact .inr ⟨r, by omega, g2⟩
      ·exact .inr ⟨k, by omega, hpk, hlk, h⟩
     ·rintro (h | ⟨r, g1, g2, g3, g4⟩)
      ·exact .inl (.inl h)
      ·by_cases e : r = k
       ·subst e; exact .inr g4
       ·exact .inl (.inr ⟨r, by omega, g2, g3, g4⟩)
    ·by_cases e : r = k
     ·subst e
      exact s4 y hde
     ·have nd : ∀ y, Desc js left par r y → ¬ Desc js left par k y := fun y g1 g2 => e (twoRoots (by omega) hkn hp hpk g1 g2)
      rw [s2 y (nd y hde)]
      obtain ⟨e1, e2, e3, e4⟩ := h2 r (by omega) hp hlr y hde
      refine ⟨e1, e2, e3, fun o j hcc => ?_⟩
      rw [s2 o (nd o (hde.snoc hcc))]
      exact e4 o j hcc
    ·have hyk : y ≠ k := fun e => by subst e; rw [hlk] at hly; cases hly
     rw [s2 y (fun hde => by have := leftD hde hlk; rw [hly] at this; cases this)]
     exact h3 y (by omega) hly
end
end Tune
namespace Tune
def upd (l : Nat → Int) (k : Nat) (p : Int) : Nat → Int := fun y => if y = k then p else l y
theorem upd_same (l : Nat → Int) (k : Nat) (p : Int) : upd l k p k = p := by unfold upd; rw [if_pos rfl]
theorem upd_other (l : Nat → Int) {k y : Nat} (p : Int) (h : y ≠ k) : upd l k p y = l y := by unfold upd; rw [if_neg h]
def fitK (js : List J) (left : Nat → Bool) (b : Int × Int) (k : Nat) (l : Nat → Int) : Bool := js.all fun j => (left j.one || left j.two) || (!(Nat.beq (max j.one j.two) k) || fitB b j (l j.one) (l j.two))
def tunGo (js : List J) (left : Nat → Bool) (b : Int × Int) (lo hi : Nat → Int) (ok : Nat → Int → Bool) : Nat → Nat → (Nat → Int) → Bool
 | 0, _, _ => true
 | d + 1, k, l => if left k then tunGo js left b lo hi ok d (k + 1) l else (irange (lo k) (hi k)).any fun p => (ok k p && fitK js left b k (upd l k p)) && tunGo js left b lo hi ok d (k + 1) (upd l k p)
theorem fitK_iff {js : List J} {left : Nat → Bool} {b : Int × Int} {k : Nat} {l : Nat → Int} : fitK js left b k l = true ↔ ∀ j ∈ js, left j.one = false → left j.two = false → max j.one j.two = k → fitB b j (l j.one) (l j.two) = true := by
 unfold fitK
 rw [List.all_eq_true]
 refine forall_congr' fun j => forall_congr' fun _ => ?_
 cases left j.one <;> cases left j.two <;> simp
 constructor
 ·rintro (h | h) e
  ·exact absurd e (Nat.ne_of_beq_eq_false h)
  ·exact h
 ·intro h
  cases h2 : Nat.beq (max j.one j.two) k with
  | false => exact .inl rfl
  | true => exact .inr (h (Nat.eq_of_beq_eq_true h2))
theorem tunGo_iff (js : List J) (left : Nat → Bool) (b : Int × Int) (lo hi : Nat → Int) (ok : Nat → Int → Bool) : ∀ (d k : Nat) (l : Nat → Int), tunGo js left b lo hi ok d k l = true ↔
  ∃ l' : Nat → Int, (∀ y, y < k → l' y = l y) ∧ (∀ x, k ≤ x → x < k + d → left x = false → lo x ≤ l' x ∧ l' x ≤ hi x ∧ ok x (l' x) = true) ∧
   ∀ j ∈ js, left j.one = false → left j.two = false → k ≤ max j.one j.two → max j.one j.two < k + d → fitB b j (l' j.one) (l' j.two) = true := by
 intro d
 induction d with
 | zero =>
  intro k l
  rw [tunGo]
  exact ⟨fun _ => ⟨l, fun _ _ => rfl, fun x h1 h2 => by omega, fun j _ _ _ h1 h2 => by omega⟩, fun _ => rfl⟩
 | succ d ih =>
  intro k l
  rw [tunGo]
  cases hk : left k with
  | true =>
   rw [if_pos rfl, ih]
   constructor
   ·rintro ⟨l', h1, h2, h3⟩
    refine ⟨l', fun y hy => h1 y (by omega), fun x hx hx' hl => ?_, fun j hj a1 a2 a3 a4 => ?_⟩
    ·by_cases e : x = k
     ·rw [e, hk] at hl; cases hl
     ·exact h2 x (by omega) (by omega) hl
    ·by_cases e : max j.one j.two = k
     ·rcases Nat.le_total j.one j.two with h | h
      ·rw [Nat.max_eq_right h] at e; rw [e, hk] at a2; cases a2
      ·rw [Nat.max_eq_left h] at e; rw [e, hk] at a1; cases a1
     ·exact h3 j hj a1 a2 (by omega) (by omega)
   ·rintro ⟨l', h1, h2, h3⟩
    refine ⟨upd l' k (l k), fun y hy => ?_, fun x hx hx' hl => ?_, fun j hj a1 a2 a3 a4 => ?_⟩
    ·by_cases e : y = k
     ·rw [e, upd_same]
     ·rw [upd_other _ _ e]; exact h1 y (by omega)
    ·rw [upd_other _ _ (by omega)]
     exact h2 x (by omega) (by omega) hl
    ·rw [upd_other _ _ (fun e => by rw [e, hk] at a1; cases a1), upd_other _ _ (fun e => by rw [e, hk] at a2; cases a2)]
     exact h3 j hj a1 a2 (by omega) (by omega)
  | false =>
   rw [if_neg (by simp), List.any_eq_true]
   constructor
   ·rintro ⟨p, hp, hc⟩
    rw [Bool.and_eq_true, Bool.and_eq_true, ih, fitK_iff] at hc
    obtain ⟨⟨c1, c2⟩, l', h1, h2, h3⟩ := hc
    have e0 : l' k = p := by rw [h1 k (by omega), upd_same]
    refine ⟨l', fun y hy => ?_, fun x hx hx' hl => ?_, fun j hj a1 a2 a3 a4 => ?_⟩
    ·rw [h1 y (by omega), upd_other _ _ (by omega)]
    ·by_cases e : x = k
     ·have := mem_irange.1 hp
      rw [e, e0]
      exact ⟨this.1, this.2, c1⟩
     ·exact h2 x (by omega) (by omega) hl
    ·by_cases e : max j.one j.two = k
     ·rw [h1 _ (by omega), h1 _ (by omega)]
      exact c2 j hj a1 a2 e
     ·exact h3 j hj a1 a2 (by omega) (by omega)
   ·rintro ⟨l', h1, h2, h3⟩
    obtain ⟨b1, b2, b3⟩ := h2 k (by omega) (by omega) hk
    have e1 : ∀ y, y < k + 1 → l' y = upd l k (l' k) y := fun y hy => by
     by_cases e : y = k
     ·rw [e, upd_same]
     ·rw [upd_other _ _ e]; exact h1 y (by omega)
    refine ⟨l' k, mem_irange.2 ⟨b1, b2⟩, ?_⟩
    rw [Bool.and_eq_true, Bool.and_eq_true, ih, fitK_iff]
    refine ⟨⟨b3, fun j hj a1 a2 a3 => ?_⟩, l', e1, fun x hx hx' hl => h2 x (by omega) (by omega) hl, fun j hj a1 a2 a3 a4 => h3 j hj a1 a2 (by omega) (by omega)⟩
    rw [← e1 _ (by omega), ← e1 _ (by omega)]
    exact h3 j hj a1 a2 (by omega) (by omega)
def tunB (n : Nat) (js : List J) (left : Nat → Bool) (b : Int × Int) (lo hi : Nat → Int) (ok : Nat → Int → Bool) : Bool := tunGo js left b lo hi ok n 0 (fun _ => 0)
theorem tunB_iff {n : Nat} {js : List J} {left : Nat → Bool} {b : Int × Int} {lo hi : Nat → Int} {ok : Nat → Int → Bool} (hj : ∀ j ∈ js, j.one < n ∧ j.two < n) : tunB n js left b lo hi ok = true ↔ ∃ l, Tun n js left b lo hi ok l := by
 unfold tunB
 rw [tunGo_iff]
 unfold Tun
 constructor
 ·rintro ⟨l', _, h2, h3⟩
  exact ⟨l', fun x hx hl => h2 x (by omega) (by omega) hl, fun j hj' a1 a2 => h3 j hj' a1 a2 (by omega) (by have := hj j hj'; omega)⟩
 ·rintro ⟨l', h2, h3⟩
  exact ⟨l', fun y hy => by omega, fun x _ hx hl => h2 x (by omega) hl, fun j hj' a1 a2 _ _ => h3 j hj' a1 a2⟩
end Tune
end
section
namespace Go.Proofs.YtgehkojccmkggaaDoor.K
open Go.RowKit
structure KeyEnc (P : Program) (k : TypeId) (α : Type) [DecidableEq α] where
 enc : α → Value
 eq : ∀ a b w, (Op.equal k (enc a) (enc b)).run P w = .ok (decide (a = b)) w
 check : ∀ empty a w, (Instr.checkKey empty 10000 k (enc a)).run P w = .ok () w
 bits : ∀ a, Instr.sameBits 10000 (enc a) (enc a) = true
 now : ∀ a b, ∃ d, P.underlying k = some d ∧ (Instr.sameNow d (enc a) (enc b) = none ∨ Instr.sameNow d (enc a) (enc b) = some (decide (a = b)))
def kvSet {α β : Type} [DecidableEq α] (a : α) (b : β) : List (α × β) → List (α × β)
 | [] => [(a, b)]
 | (x, y) :: r => if a = x then (a, b) :: r else (x, y) :: kvSet a b r
theorem kvSet_mem {α β : Type} [DecidableEq α] {a : α} {b : β} : ∀ {kv : List (α × β)} {p : α × β}, p ∈ kvSet a b kv → p = (a, b) ∨ p ∈ kv
 | [], p, h => by simp [kvSet] at h; exact .inl h
 | (x, y) :: r, p, h => by
  unfold kvSet at h
  split at h
  ·rcases List.mem_cons.1 h with h | h
   ·exact .inl h
   ·exact .inr (List.mem_cons_of_mem _ h)
  ·rcases List.mem_cons.1 h with h | h
   ·exact .inr (h ▸ List.mem_cons_self)
   ·rcases kvSet_mem h with h | h
    ·exact .inl h
    ·exact .inr (List.mem_cons_of_mem _ h)
theorem kvSet_new {α β : Type} [DecidableEq α] {a : α} {b : β} : ∀ {kv : List (α × β)}, kv.find? (fun p => decide (a = p.1)) = none → kvSet a b kv = kv ++ [(a, b)]
 | [], _ => rfl
 | (x, y) :: r, h => by
  simp only [List.find?_cons] at h
  split at h
  ·cases h
  ·rename_i hx
   have hx' : ¬ a = x := by simpa using hx
   simp [kvSet, hx', kvSet_new h]
section
variable {P : Program} {k : TypeId} {α β : Type} [DecidableEq α] (E : KeyEnc P k α) (V : β → Value)
def MapIs (w : World) (m : Nat) (kv : List (α × β)) : Prop :=
 ∃ es clock, w.heap[m]? = some (.map es clock) ∧ es.toList.map (fun e => (e.key, e.val)) = kv.map (fun p => (E.enc p.1, V p.2))
variable {E V}
theorem MapIs.lt {w : World} {m : Nat} {kv : List (α × β)} (h : MapIs E V w m kv) : m < w.heap.size := by
 obtain ⟨es, c, hb, _⟩ := h
 exact (Array.getElem?_eq_some_iff.1 hb).1
theorem MapIs.move {w w' : World} {m : Nat} {kv : List (α × β)} (h : MapIs E V w m kv) (e : w'.heap[m]? = w.heap[m]?) : MapIs E V w' m kv := by
 obtain ⟨es, c, hb, hk⟩ := h
 exact ⟨es, c, e.trans hb, hk⟩
theorem MapIs.below {w w' : World} {m : Nat} {kv : List (α × β)} (h : MapIs E V w m kv) (hb : Below w.heap.size w w') : MapIs E V w' m kv := h.move (hb.block m h.lt)
theorem MapIs.alloc {w : World} {m : Nat} {kv : List (α × β)} (h : MapIs E V w m kv) (o : Obj) : MapIs E V (w.alloc o) m kv := h.below ((Below.refl _ _).alloc (Nat.le_refl _) _)
theorem MapIs.new (w : World) : MapIs E V (w.alloc (.map #[] 0)) w.heap.size [] := ⟨#[], 0, (MapKept.heap_alloc w _).1, rfl⟩
def kvFind (a : α) : List (α × β) → Nat → Option (Nat × β)
 | [], _ => none
 | (x, y) :: r, i => if a = x then some (i, y) else kvFind a r (i + 1)
theorem kvFind_find (a : α) : ∀ (kv : List (α × β)) (i : Nat), (kvFind a kv i).map (·.2) = (kv.find? fun p => decide (a = p.1)).map (·.2)
 | [], _ => rfl
 | (x, y) :: r, i => by
  by_cases h : a = x
  ·simp [kvFind, h]
  ·simp [kvFind, h, kvFind_find a r (i + 1)]
theorem kvFind_lt (a : α) : ∀ (kv : List (α × β)) (i j : Nat) (y : β), kvFind a kv i = some (j, y) → i ≤ j ∧ ∃ x, kv[j - i]? = some (x, y) ∧ a = x
 | [], _, _, _, h => by simp [kvFind] at h
 | (x, y) :: r, i, j, z, h => by
  unfold kvFind at h
  split at h
  ·rename_i hx
   simp at h
   obtain ⟨rfl, rfl⟩ := h
   exact ⟨Nat.le_refl _, x, by simp, hx⟩
  ·obtain ⟨h1, x', h2, h3⟩ := kvFind_lt a r (i + 1) j z h
   refine ⟨by omega, x', ?_, h3⟩
   rw [show j - i = (j - (i + 1)) + 1 from by omega]
   simpa using h2
theorem findAsking_run (a : α) (w : World) : ∀ (es : List MapEntry) (kv : List (α × β)) (i : Nat), es.map (fun e => (e.key, e.val)) = kv.map (fun p => (E.enc p.1, V p.2)) →
  (Instr.findAsking k (E.enc a) es i).run P w = .ok ((kvFind a kv i).map fun r => (r.1, V r.2)) w
 | [], [], _, _ => by simp [Instr.findAsking, kvFind]
 | e :: es, [], _, h => by simp at h
 | [], p :: kv, _, h => by simp at h
 | e :: es, (x, y) :: kv, i, h => by
  simp only [List.map_cons, List.cons.injEq, Prod.mk.injEq] at h
  obtain ⟨⟨h1, h2⟩, h3⟩ := h
  have ih := findAsking_run a w es kv (i + 1) h3
  by_cases hx : a = x
  ·simp [Instr.findAsking, h1, E.eq, hx, kvFind, h2]
  ·simp [Instr.findAsking, h1, E.eq, hx, kvFind, ih]
theorem findNow_run (a : α) {d : TypeDesc} (hd : P.underlying k = some d) : ∀ (es : List MapEntry) (kv : List (α × β)) (i : Nat), es.map (fun e => (e.key, e.val)) = kv.map (fun p => (E.enc p.1, V p.2)) →
  Instr.findNow d (E.enc a) es i = none ∨ Instr.findNow d (E.enc a) es i = some ((kvFind a kv i).map fun r => (r.1, V r.2))
 | [], [], _, _ => .inr (by simp [Instr.findNow, kvFind])
 | e :: es, [], _, h => by simp at h
 | [], p :: kv, _, h => by simp at h
 | e :: es, (x, y) :: kv, i, h => by
  simp only [List.map_cons, List.cons.injEq, Prod.mk.injEq] at h
  obtain ⟨⟨h1, h2⟩, h3⟩ := h
  have ih := findNow_run a hd es kv (i + 1) h3
  obtain ⟨d', hd', hn⟩ := E.now a x
  obtain rfl : d' = d := Option.some.inj (hd'.symm.trans hd)
  rcases hn with hn | hn
  ·exact .inl (by simp [Instr.findNow, h1, hn])
  ·by_cases hx : a = x
   ·exact .inr (by simp only [Instr.findNow, h1, hn]; simp [hx, kvFind, h2])
   ·rcases ih with ih | ih
    ·exact .inl (by simp only [Instr.findNow, h1, hn]; simp [hx, ih])
    ·exact .inr (by simp only [Instr.findNow, h1, hn]; simp [hx, kvFind, ih])
theorem findKey_run (a : α) (w : World) {es : List MapEntry} {kv : List (α × β)} (h : es.map (fun e => (e.key, e.val)) = kv.map (fun p => (E.enc p.1, V p.2))) :
  (Instr.findKey k (E.enc a) es).run P w = .ok ((kvFind a kv 0).map fun r => (r.1, V r.2)) w := by
 obtain ⟨d, hd, _⟩ := E.now a a
 unfold Instr.findKey
 rw [Sem.run_bind, run_underlying hd]
 simp only [Result.andThen_ok]
 rcases findNow_run (E := E) (V := V) a hd es kv 0 h with e | e
 ·rw [e]; exact findAsking_run a w es kv 0 h
 ·rw [e]; simp
def kvGet (V : β → Value) (z : Value) (kv : List (α × β)) (a : α) : Value × Bool :=
 match kv.find? fun p => decide (a = p.1) with
 | some p => (V p.2, true)
 | none => (z, false)
theorem MapIs.lookup {w : World} {m : Nat} {kv : List (α × β)} {t e : TypeId} {z : Value} (h : MapIs E V w m kv) (ht : P.underlying t = some (.map k e)) (hz : (zeroValue e).run P w = .ok z w) (a : α) (ok : Bool) :
  (Instr.lookup t (.map (some m)) (E.enc a) ok).run P w = .ok (if ok then .tuple #[(kvGet V z kv a).1, .bool (kvGet V z kv a).2] else (kvGet V z kv a).1) w := by
 obtain ⟨es, c, hb, hk⟩ := h
 have hf := findKey_run (E := E) (V := V) a w hk
 have hg : (getObj m).run P w = .ok (.map es c) w := by simp [getObj, Sem.run, hb]
 have e1 := kvFind_find a kv 0
 simp only [Instr.lookup, Sem.run_bind, run_underlying ht, Result.andThen_ok, hg, Sem.run_pure, E.check, hf]
 unfold kvGet
 cases hq : kvFind a kv 0 with
 | none =>
  rw [hq] at e1
  cases hp : kv.find? fun p => decide (a = p.1) with
  | none => simp [hz]
  | some p => rw [hp] at e1; simp at e1
 | some r =>
  rw [hq] at e1
  cases hp : kv.find? fun p => decide (a = p.1) with
  | none => rw [hp] at e1; simp at e1
  | some p =>
   rw [hp] at e1
   simp at e1
   simp [e1]
theorem kvSet_modify (a : α) (b : β) : ∀ (kv : List (α × β)) (i j : Nat) (y : β) (es : List MapEntry), kvFind a kv i = some (j, y) → es.map (fun e => (e.key, e.val)) = kv.map (fun p => (E.enc p.1, V p.2)) →
  (es.modify (j - i) fun e => { e with key := E.enc a, val := V b }).map (fun e => (e.key, e.val)) = (kvSet a b kv).map (fun p => (E.enc p.1, V p.2))
 | [], _, _, _, _, h, _ => by simp [kvFind] at h
 | (x, z) :: r, i, j, y, [], h, hk => by simp at hk
 | (x, z) :: r, i, j, y, e :: es, h, hk => by
  simp only [List.map_cons, List.cons.injEq, Prod.mk.injEq] at hk
  obtain ⟨⟨h1, h2⟩, h3⟩ := hk
  unfold kvFind at h
  split at h
  ·rename_i hx
   simp at h
   obtain ⟨rfl, rfl⟩ := h
   simp [kvSet, hx, h3]
  ·rename_i hx
   have hl := (kvFind_lt a r (i + 1) j y h).1
   have ih := kvSet_modify a b r (i + 1) j y es h h3
   rw [show j - i = (j - (i + 1)) + 1 from by omega]
   simp [kvSet, hx, h1, h2, ih]
theorem MapIs.update {w : World} {m : Nat} {kv : List (α × β)} {t e : TypeId} (h : MapIs E V w m kv) (ht : P.underlying t = some (.map k e)) (a : α) (b : β) :
  ∃ w', (Instr.mapUpdate t (.map (some m)) (E.enc a) (V b)).run P w = .ok () w' ∧ MapIs E V w' m (kvSet a b kv) ∧ w.grownBy w' (some m) := by
 have hm := h.lt
 obtain ⟨es, c, hb, hk⟩ := h
 have hf := findKey_run (E := E) (V := V) a w hk
 have hg : (getObj m).run P w = .ok (.map es c) w := by simp [getObj, Sem.run, hb]
 have hs : ∀ o, (setObj m o).run P w = .ok () (w.putObj m o) := fun o => by simp [setObj, Sem.run, hb, World.putObj]
 have hG : ∀ o, w.grownBy (w.putObj m o) (some m) := fun o => grownBy_putObj' w m o
 cases hq : kvFind a kv 0 with
 | none =>
  refine ⟨w.putObj m (.map (es.push { key := E.enc a, val := V b, born := c }) (c + 1)), ?_, ⟨_, _, World.putObj_heap_same hm, ?_⟩, hG _⟩
  ·rw [hq] at hf
   simp only [Instr.mapUpdate, Sem.run_bind, run_underlying ht, Result.andThen_ok, hg, E.check, hf]
   simp [hs]
  ·have hn : kv.find? (fun p => decide (a = p.1)) = none := by
    have := kvFind_find a kv 0
    rw [hq] at this
    cases hp : kv.find? fun p => decide (a = p.1) with
    | none => rfl
    | some p => rw [hp] at this; simp at this
   rw [kvSet_new hn]
   simp [hk]
 | some r =>
  obtain ⟨j, y⟩ := r
  obtain ⟨_, x, hx1, rfl⟩ := kvFind_lt a kv 0 j y hq
  have hm' := kvSet_modify (E := E) (V := V) a b kv 0 j y es.toList hq hk
  have hjx : (es.toList.map (fun e => (e.key, e.val)))[j]? = some (E.enc a, V y) := by rw [hk]; simp at hx1; simp [hx1]
  have hj : ∃ e0, es[j]? = some e0 ∧ e0.key = E.enc a := by
   rw [List.getElem?_map] at hjx
   cases h0 : es.toList[j]? with
   | none => rw [h0] at hjx; simp at hjx
   | some e0 => rw [h0] at hjx; simp at hjx; exact ⟨e0, by simpa using h0, hjx.1⟩
  obtain ⟨e0, he0, hk0⟩ := hj
  refine ⟨w.putObj m (.map (es.modify j fun e => { e with key := E.enc a, val := V b }) c), ?_, ⟨_, _, World.putObj_heap_same hm, ?_⟩, hG _⟩
  ·rw [hq] at hf
   simp only [Instr.mapUpdate, Sem.run_bind, run_underlying ht, Result.andThen_ok, hg, E.check, hf]
   simp [he0, hk0, Instr.keyThatStays, E.bits, hs]
  ·rw [Array.toList_modify]
   simpa using hm'
section
variable {F : Fence} {nF : Nat} {w : World} {m : Nat} {kv : List (α × β)} {t e : TypeId} {ops : Array Oper} {rest : List Oper} {o : Oper} {a : Act} {Q : Exit → Act → World → Prop}
theorem wpListIn_update (E : KeyEnc P k α) (V : β → Value) (hg : o.guard = none) (mo x v : Operand) (hop : o.op = Op.mapUpdate t mo x v) (ht : P.underlying t = some (.map k e)) (hm : a.eval mo = .map (some m))
  (h : MapIs E V w m kv) (key : α) (b : β) (hx : a.eval x = E.enc key) (hv : a.eval v = V b)
  (hK : ∀ w', MapIs E V w' m (kvSet key b kv) → w.grownBy w' (some m) → wpListIn F nF P ops Q rest (a.put o.dst undef) w') : wpListIn F nF P ops Q (o :: rest) a w := by
 refine wpListIn_plain hg fun K' hK' => ?_
 obtain ⟨w', hrun, r1, r2⟩ := h.update ht key b
 unfold Oper.wpIn
 refine ⟨by simp [Oper.about, hop], ?_⟩
 rw [Oper.semAt_plain F _ _ (by rw [hop]; intro c hc'; cases hc')]
 simp [execOp, hop, hm, hx, hv, hrun, Result.andThen]
 exact hK' _ _ (hK w' r1 r2)
theorem wpListIn_look (E : KeyEnc P k α) (V : β → Value) (hg : o.guard = none) (mo x : Operand) (ok : Bool) (hop : o.op = Op.lookup t mo x ok) (ht : P.underlying t = some (.map k e)) (hm : a.eval mo = .map (some m))
  (h : MapIs E V w m kv) (z : Value) (hz : (zeroValue e).run P w = .ok z w) (key : α) (hx : a.eval x = E.enc key)
  (hK : wpListIn F nF P ops Q rest (a.put o.dst (if ok then .tuple #[(kvGet V z kv key).1, .bool (kvGet V z kv key).2] else (kvGet V z kv key).1)) w) : wpListIn F nF P ops Q (o :: rest) a w := by
 refine wpListIn_plain hg fun K' hK' => ?_
 have hrun := h.lookup ht hz key ok
 unfold Oper.wpIn
 refine ⟨by simp [Oper.about, hop], ?_⟩
 rw [Oper.semAt_plain F _ _ (by rw [hop]; intro c hc'; cases hc')]
 simp only [execOp, hop, hm, hx, Sem.run_bind, hrun, Result.andThen_ok, Sem.run_pure, Oper.uponIn_value]
 exact hK' _ _ hK
end
end
end Go.Proofs.YtgehkojccmkggaaDoor.K
end
section
namespace Go.Proofs.YtgehkojccmkggaaDoor.K
open Go.RowKit Go.Shelf Go.Proofs.YtgehkojccmkggaaDoorW.PrintWords Go.Proofs.YtgehkojccmkggaaDoorW.PrintLast Go.Proofs.YtgehkojccmkggaaDoorW.PrintMore
set_option linter.unusedVariables false
set_option linter.unusedSimpArgs false
attribute [local go_sem] Oper.semAt_some
structure Mm (m : Nat) where
 P : World → Prop
 move : ∀ {A B : World}, P A → B.heap[m]? = A.heap[m]? → P B
 lt : ∀ {A : World}, P A → m < A.heap.size
theorem Mm.below {m : Nat} (M : Mm m) {A B : World} (h : M.P A) (hb : Below A.heap.size A B) : M.P B := M.move h (hb.block m (M.lt h))
theorem alloc_at (W : World) (o : Obj) (i : Nat) (h : i = W.heap.size) : (W.alloc o).heap[i]? = some o := by subst h; exact heap_alloc_new W o
theorem cell_a1 {w : World} {a : Addr} {v : Value} (h : w.cell? a = some v) (o : Obj) : (w.alloc o).cell? a = some v := pw_cell_below (below_alloc (Below.refl _ _) o) h
theorem cell_a2 {w : World} {a : Addr} {v : Value} (h : w.cell? a = some v) (o o' : Obj) : ((w.alloc o).alloc o').cell? a = some v := cell_a1 (cell_a1 h o) o'
structure Kp (m : Nat) (w w' : World) : Prop where
 os : w'.os = w.os
 tape : w'.tape = w.tape
 output : w'.output = w.output
 size : w.heap.size ≤ w'.heap.size
 block : ∀ i, i < w.heap.size → i ≠ m → w'.heap[i]? = w.heap[i]?
theorem Kp.of_below {w w' : World} {m : Nat} (hb : Below w.heap.size w w') : Kp m w w' := ⟨hb.os, hb.tape, hb.output, hb.size, fun i hi _ => hb.block i hi⟩
theorem Kp.refl (m : Nat) (w : World) : Kp m w w := ⟨rfl, rfl, rfl, Nat.le_refl _, fun _ _ _ => rfl⟩
theorem Kp.grown {w w1 w' : World} {m : Nat} (hb : Below w.heap.size w w1) (hg : w1.grownBy w' (some m)) : Kp m w w' :=
 ⟨hg.os.trans hb.os, hg.tape.trans hb.tape, hg.output.trans hb.output, Nat.le_trans hb.size hg.size, fun i hi hm => (hg.block i (Nat.lt_of_lt_of_le hi hb.size) (fun e => hm (Option.some.inj e))).trans (hb.block i hi)⟩
theorem Kp.trans {w w1 w2 : World} {m : Nat} (h : Kp m w w1) (h' : Kp m w1 w2) : Kp m w w2 :=
 ⟨h'.os.trans h.os, h'.tape.trans h.tape, h'.output.trans h.output, Nat.le_trans h.size h'.size, fun i hi hm => (h'.block i (Nat.lt_of_lt_of_le hi h.size) hm).trans (h.block i hi hm)⟩
structure KB {m : Nat} (M : Mm m) (W W' : World) : Prop where
 kp : Kp m W W'
 memo : M.P W → M.P W'
theorem KB.refl {m : Nat} (M : Mm m) (W : World) : KB M W W := ⟨Kp.refl m W, id⟩
theorem KB.trans {m : Nat} {M : Mm m} {A B C : World} (h : KB M A B) (k : KB M B C) : KB M A C := ⟨h.kp.trans k.kp, fun x => k.memo (h.memo x)⟩
theorem KB.of_below {m : Nat} {M : Mm m} {A B : World} (h : Below A.heap.size A B) : KB M A B := ⟨Kp.of_below h, fun x => M.below x h⟩
theorem KB.alloc {m : Nat} (M : Mm m) (A : World) (o : Obj) : KB M A (A.alloc o) := KB.of_below (below_alloc (Below.refl _ _) o)
theorem KB.at {m : Nat} {M : Mm m} {A B : World} (h : KB M A B) {k : Nat} {o : Obj} (hk : A.heap[k]? = some o) (hne : k ≠ m) : B.heap[k]? = some o := (h.kp.block k (blk_lt hk) hne).trans hk
structure KM {m : Nat} (M : Mm m) (n : Nat) (W W' : World) : Prop where
 os : W'.os = W.os
 tape : W'.tape = W.tape
 output : W'.output = W.output
 size : W.heap.size ≤ W'.heap.size
 block : ∀ i o, W.heap[i]? = some o → i ≠ m → (i < n ∨ o.isCells = true) → W'.heap[i]? = some o
 memo : M.P W → M.P W'
theorem KB.weak {m : Nat} {M : Mm m} {A B : World} (h : KB M A B) (n : Nat) : KM M n A B :=
 ⟨h.kp.os, h.kp.tape, h.kp.output, h.kp.size, fun i o hi hm _ => h.at hi hm, h.memo⟩
theorem KM.mono {m n n' : Nat} {M : Mm m} {A B : World} (h : KM M n A B) (hn : n' ≤ n) : KM M n' A B := { h with block := fun i o hi hm ho => h.block i o hi hm (ho.imp (fun h => Nat.lt_of_lt_of_le h hn) id) }
theorem KM.put {m n : Nat} (M : Mm m) {A : World} {l : Nat} {o : Obj} (o' : Obj) (hl : A.heap[l]? = some o) (ho : o.isCells = false) (hn : n ≤ l) (hm : m ≠ l) : KM M n A (A.putObj l o') :=
 ⟨rfl, rfl, rfl, by simp, fun i x hi him hx => (World.putObj_heap_other (by rintro rfl; rw [hl] at hi; cases hi; rcases hx with hx | hx; omega; rw [ho] at hx; cases hx)).trans hi, fun x => M.move x (World.putObj_heap_other hm)⟩
theorem KM.cells {m n : Nat} {M : Mm m} {A B : World} (h : KM M n A B) {k : Nat} {c : Array Value} {t : TypeId} {f : Nat × Nat} (hk : A.heap[k]? = some (.cells c t f)) (hne : k ≠ m) : B.heap[k]? = some (.cells c t f) := h.block k _ hk hne (.inr rfl)
theorem KM.at {m n : Nat} {M : Mm m} {A B : World} (h : KM M n A B) {k : Nat} {o : Obj} (hk : A.heap[k]? = some o) (hne : k ≠ m) (hn : k < n) : B.heap[k]? = some o := h.block k _ hk hne (.inl hn)
structure KR {m : Nat} (M : Mm m) (S : Nat → Prop) (W W' : World) : Prop where
 os : W'.os = W.os
 tape : W'.tape = W.tape
 output : W'.output = W.output
 size : W.heap.size ≤ W'.heap.size
 block : ∀ i, S i → i < W.heap.size → i ≠ m → W'.heap[i]? = W.heap[i]?
 memo : M.P W → M.P W'
theorem KR.refl {m : Nat} (M : Mm m) (S : Nat → Prop) (W : World) : KR M S W W := ⟨rfl, rfl, rfl, Nat.le_refl _, fun _ _ _ _ => rfl, id⟩
theorem KR.trans {m : Nat} {M : Mm m} {S : Nat → Prop} {A B C : World} (h : KR M S A B) (k : KR M S B C) : KR M S A C :=
 ⟨k.os.trans h.os, k.tape.trans h.tape, k.output.trans h.output, Nat.le_trans h.size k.size, fun i hi hl hm => (k.block i hi (Nat.lt_of_lt_of_le hl h.size) hm).trans (h.block i hi hl hm), fun x => k.memo (h.memo x)⟩
theorem KB.round {m : Nat} {M : Mm m} {A B : World} (h : KB M A B) (S : Nat → Prop) : KR M S A B :=
 ⟨h.kp.os, h.kp.tape, h.kp.output, h.kp.size, fun i _ hi hm => h.kp.block i hi hm, h.memo⟩
theorem KR.mono {m : Nat} {M : Mm m} {S S' : Nat → Prop} {A B : World} (h : KR M S A B) (hn : ∀ i, S' i → i < A.heap.size → S i) : KR M S' A B := { h with block := fun i hi hl hm => h.block i (hn i hi hl) hl hm }
theorem KR.at {m : Nat} {M : Mm m} {S : Nat → Prop} {A B : World} (h : KR M S A B) {k : Nat} {o : Obj} (hk : A.heap[k]? = some o) (hkn : S k) (hne : k ≠ m) : B.heap[k]? = some o := (h.block k hkn (blk_lt hk) hne).trans hk
theorem KR.putObj {m : Nat} {M : Mm m} {S : Nat → Prop} {A B : World} (h : KR M S A B) (l : Nat) (o : Obj) (hl : ¬ S l ∨ A.heap.size ≤ l) (hm : m ≠ l) : KR M S A (B.putObj l o) :=
 ⟨h.os, h.tape, h.output, by simpa using h.size, fun i hi hil hne => (World.putObj_heap_other (by rintro rfl; rcases hl with hl | hl; exact hl hi; omega)).trans (h.block i hi hil hne), fun x => M.move (h.memo x) (World.putObj_heap_other hm)⟩
theorem KR.set {m : Nat} {M : Mm m} {S : Nat → Prop} {A B : World} (h : KR M S A B) {g : Nat} (hg : ¬ S g ∨ A.heap.size ≤ g) (hm : m ≠ g) (j : Nat) (v : Value) : KR M S A (B.setCell ⟨g, j, none⟩ v) :=
 ⟨h.os, h.tape, h.output, by simpa using h.size, fun i hi hil hne => (Below.heap_setCell B ⟨g, j, none⟩ v i (by show i ≠ g; rintro rfl; rcases hg with hg | hg; exact hg hi; omega)).trans (h.block i hi hil hne), fun x => M.move (h.memo x) (Below.heap_setCell B ⟨g, j, none⟩ v m hm)⟩
theorem KR.step {m : Nat} {M : Mm m} {S : Nat → Prop} {A B C : World} (h : KR M S A B) (k : KB M B C) : KR M S A C := h.trans (k.round S)
theorem KR.weak {m n : Nat} {M : Mm m} {S : Nat → Prop} {A B C : World} (h : KR M S A B) (k : KM M n B C) (hS : ∀ i, S i → i < A.heap.size → i < n) : KR M S A C :=
 ⟨k.os.trans h.os, k.tape.trans h.tape, k.output.trans h.output, Nat.le_trans h.size k.size, fun i hi hl hm => by
  have e := h.block i hi hl hm
  obtain ⟨o, ho⟩ : ∃ o, A.heap[i]? = some o := ⟨_, Array.getElem?_eq_getElem hl⟩
  rw [ho] at e ⊢
  exact k.block i o e hm (.inl (hS i hi hl)), fun x => k.memo (h.memo x)⟩
theorem yield_any' {m : Nat} (m' : Nat) {P : Program} {l : Nat} {args : Array Value} {W : World} {Q : Ending → World → Prop} (h : YieldAt Fence.wide m P l args W Q) : YieldAt Fence.wide m' P l args W Q := by
 obtain ⟨fn, tmps, assign, body, hy, hR⟩ := h
 exact ⟨fn, tmps, assign, body, hy, hR.1, fun c cs _ => hR.2 c cs (room_wide _)⟩
def SeqM (P : Program) {α : Type} (g : Nat) (lb : Array Value) (encs : α → Array Value) (Ok : α → Prop) {m : Nat} (M : Mm m) (S : Nat → Prop) (xs : List α) (w : World) : Prop :=
 ∀ (l : Nat) (J Jx : List α → World → Prop) (W : World), KR M S w W → (∀ s A B, J s A → KM M W.heap.size A B → J s B) → (∀ s A B, Jx s A → KM M W.heap.size A B → Jx s B) →
  (∀ pre x W1, Ok x → pre ++ [x] <+: xs → J pre W1 → YieldAt Fence.wide 9 P l (encs x) W1 fun e W' =>
   (e = .returned (.bool true) ∧ J (pre ++ [x]) W' ∧ KR M (fun i => S i ∨ W.heap.size ≤ i) W1 W') ∨ (e = .returned (.bool false) ∧ Jx (pre ++ [x]) W' ∧ KR M (fun i => S i ∨ W.heap.size ≤ i) W1 W')) →
  J [] W →
  CallsIn Fence.wide 9 P g (#[.func (.yield l) #[] #[]] ++ lb) W fun e W' => (∃ v, e = .returned v) ∧ (J xs W' ∨ (∃ pre, pre <+: xs ∧ Jx pre W'))
theorem callsIn_any {m : Nat} (m' : Nat) {P : Program} {f : FuncId} {args : Array Value} {W : World} {Q : Ending → World → Prop} (h : CallsIn Fence.wide m P f args W Q) : CallsIn Fence.wide m' P f args W Q := callsIn_wide.2 (callsIn_wide.1 h)
def postM {α : Type} (B : Nat) (Kp : World → World → Prop) (I : List α → World → Prop) (Ix : Code → List α → World → Prop) (xs : List α) (W : World) : Exit → Act → World → Prop
 | .normal, _, W' => KeepsFrom B W W' ∧ Kp W W' ∧ I xs W'
 | .ret, _, W' => KeepsFrom B W W' ∧ Kp W W' ∧ Ix .ret xs W'
 | .exit id, _, W' => KeepsFrom B W W' ∧ Kp W W' ∧ Ix (.exit id) xs W'
 | .goto t, _, W' => KeepsFrom B W W' ∧ Kp W W' ∧ Ix (.goto t) xs W'
 | .panic _, _, _ => False
 | .outgrown, _, _ => False
theorem wpIn_range {P : Program} {α : Type} {g : Operand} {ps : Array Tmp} {assign body : Code} {Q : Exit → Act → World → Prop} {a : Act} {w : World} {n : Nat} (h1 : 1 ≤ n)
  {gf : Nat} {lb : Array Value} (hg : a.eval g = .func (.func gf) #[] lb) (eg : ∀ args w, (callFunc gf args).run P w = .ok (.enter gf args) w)
  {encs : α → Array Value} {Ok : α → Prop} {m : Nat} {M : Mm m} {S : Nat → Prop} {xs : List α} (hseq : SeqM P gf lb encs Ok M S xs w) (hS : ∀ i, S i → i < w.heap.size) (hm : m < w.heap.size) (hps : ∀ x, (encs x).size = ps.size)
  (I : List α → World → Prop) (Ix : Code → List α → World → Prop) (hI : ∀ s A B, I s A → KM M w.heap.size A B → I s B) (hIx : ∀ c s A B, Ix c s A → KM M w.heap.size A B → Ix c s B)
  (h0 : I [] w) (Ax : α → Act → World → Prop) (hAx : ∀ x a' A B, Ax x a' A → KM M w.heap.size A B → Ax x a' B)
  (hassign : ∀ (l : Nat) (pre : List α) (x : α) (W : World) (K : Act → World → Prop), I pre W → (∀ a' W', KeepsFrom w.heap.size W W' → KR M (fun i => S i ∨ w.heap.size + 2 ≤ i) W W' → I pre W' → Ax x a' W' → K a' W') →
   assign.wpIn (Fence.wide.inRound l) (n - 1 - 1) P (Exit.then K (fun _ _ _ => False)) { tmps := (ps.zip (encs x)).foldl (fun t (p, v) => t.setIfInBounds p v) a.tmps, defers := [] } W)
  (hbody : ∀ (l : Nat) (pre : List α) (x : α) (a' : Act) (W : World), w.heap.size ≤ l → Ok x → pre ++ [x] <+: xs → I pre W → Ax x a' W → body.wpIn (Fence.wide.inRound l) (n - 1 - 1) P (postM w.heap.size (KR M (fun i => S i ∨ w.heap.size + 2 ≤ i)) I Ix (pre ++ [x]) W) a' W)
  (hdone : ∀ (D : Nat) (W : World), w.heap.size ≤ D → I xs W → W.heap[D]? = some (.deferred (some [])) → Q .normal { a with defers := { target := .collected D, args := #[] } :: a.defers } W)
  (hstop : ∀ (D : Nat) (c : Code) (pre : List α) (W : World), w.heap.size ≤ D → pre <+: xs → Ix c pre W → W.heap[D]? = some (.deferred (some [])) → c.wpIn Fence.wide n P Q { a with defers := { target := .collected D, args := #[] } :: a.defers } W) :
  (Code.rangeFunc g ps assign body).wpIn Fence.wide n P Q a w := by
 refine wpIn_rangeFunc ?_
 intro fn hfn
 obtain ⟨rec, hrec⟩ : ∃ rec : LoopState → Option Code → Loop, rec = fun st pe => { state := st, pending := pe, fn, tmps := a.tmps, params := ps, assign, body, defers := w.heap.size } := ⟨_, rfl⟩
 obtain ⟨W1, hW1⟩ : ∃ W1, (w.alloc (.deferred (some []))).alloc (.loop (rec .ready none)) = W1 := ⟨_, rfl⟩
 have hL1 : W1.heap[w.heap.size + 1]? = some (.loop (rec .ready none)) := by
  rw [← hW1]; have := World.alloc_heap_new (w.alloc (.deferred (some []))) (.loop (rec .ready none)); rwa [World.size_alloc] at this
 have hK1 : W1.heap[w.heap.size]? = some (.deferred (some [])) := by
  rw [← hW1]; exact (Below.heap_alloc _ _ _ (by simp)).trans (World.alloc_heap_new w _)
 have hsz1 : W1.heap.size = w.heap.size + 2 := by rw [← hW1]; simp
 have hkm : KB M w W1 := by rw [← hW1]; exact (KB.alloc _ _ _).trans (KB.alloc _ _ _)
 refine ⟨w.heap.size + 1, [{ target := .collected w.heap.size, args := #[] }], W1, { target := .fn (.func gf) lb, args := #[.func (.yield (w.heap.size + 1)) #[] #[]] }, W1, gf,
  #[.func (.yield (w.heap.size + 1)) #[] #[]] ++ lb, W1, ?_, ?_, ?_, ?_, fun _ => h1, ?_⟩
 ·rw [← hW1, hrec]; exact run_enterLoop_outer _ _ _ _ _
 ·simp only [resolve, hg]
  simp [go_sem]
 ·intro f' hf'; trivial
 ·simp [invoke, go_sem, eg]
 ·refine (callsIn_any (n - 1) (hseq (w.heap.size + 1)
   (fun pre W => I pre W ∧ W.heap[w.heap.size + 1]? = some (.loop (rec .ready none)) ∧ W.heap[w.heap.size]? = some (.deferred (some [])))
   (fun pre W => ∃ c, Ix c pre W ∧ W.heap[w.heap.size + 1]? = some (.loop (rec .done (some c))) ∧ W.heap[w.heap.size]? = some (.deferred (some [])))
   W1 (hkm.round _)
   (fun s A B hs hk => ⟨hI s A B hs.1 (hk.mono (by omega)), hk.at hs.2.1 (by omega) (by omega), hk.at hs.2.2 (by omega) (by omega)⟩)
   (fun s A B hs hk => by
    obtain ⟨c, hc, hl, hd⟩ := hs
    exact ⟨c, hIx c s A B hc (hk.mono (by omega)), hk.at hl (by omega) (by omega), hk.at hd (by omega) (by omega)⟩)
   ?_ ⟨hI _ _ _ h0 (hkm.weak _), hL1, hK1⟩)).mono ?_
  ·rintro pre x W hok hpre ⟨hi, hl, hk⟩
   have hlt : w.heap.size + 1 < W.heap.size := (Array.getElem?_eq_some_iff.1 hl).1
   have hy := run_yield (P := P) (args := encs x) hl (by rw [hrec]; exact hps x)
   rw [hrec] at hy
   refine yield_any' (m := n - 1 - 1) _ ⟨fn, _, assign, body, hy, roundIn_of_wpIn hfn (hassign _ pre x W _ hi ?_)⟩
   clear hy
   intro a' Wa hkfa hkpa hia hax
   have hla := hkfa.same _ _ (by omega) hl rfl
   have hka := hkfa.same _ _ (Nat.le_refl _) hk rfl
   have hlta : w.heap.size + 1 < Wa.heap.size := (Array.getElem?_eq_some_iff.1 hla).1
   refine ⟨_, run_beginRound hla (by rw [hrec]), ?_⟩
   have hl2 : (Wa.putObj (w.heap.size + 1) (.loop { rec .ready none with state := .busy })).heap[w.heap.size + 1]? = some (.loop { rec .ready none with state := .busy }) := World.putObj_heap_same hlta
   have hk2 : (Wa.putObj (w.heap.size + 1) (.loop { rec .ready none with state := .busy })).heap[w.heap.size]? = some (.deferred (some [])) := (World.putObj_heap_other (by omega)).trans hka
   have hn1 : ¬ (S (w.heap.size + 1) ∨ w.heap.size + 2 ≤ w.heap.size + 1) := by rintro (h | h); exact absurd (hS _ h) (by omega); omega
   have hw2 : KR M (fun i => S i ∨ w.heap.size + 2 ≤ i) W (Wa.putObj (w.heap.size + 1) (.loop { rec .ready none with state := .busy })) := hkpa.putObj _ _ (.inl hn1) (by omega)
   refine wpIn_mono (hbody _ pre x a' _ (by omega) hok hpre (hI _ _ _ hia (KM.put M _ hla rfl (by omega) (by omega))) (hAx _ _ _ _ hax (KM.put M _ hla rfl (by omega) (by omega)))) ?_
   have fin : ∀ (jump : Option Code) (W3 : World), KeepsFrom w.heap.size (Wa.putObj (w.heap.size + 1) (.loop { rec .ready none with state := .busy })) W3 →
     (Instr.endRound (w.heap.size + 1) jump).run P W3 = .ok (.bool jump.isNone) (W3.putObj (w.heap.size + 1) (.loop (rec (if jump.isNone then .ready else .done) jump))) ∧
     W3.heap[w.heap.size + 1]? = some (.loop { rec .ready none with state := .busy }) ∧
     (W3.putObj (w.heap.size + 1) (.loop (rec (if jump.isNone then .ready else .done) jump))).heap[w.heap.size + 1]? = some (.loop (rec (if jump.isNone then .ready else .done) jump)) ∧
     (W3.putObj (w.heap.size + 1) (.loop (rec (if jump.isNone then .ready else .done) jump))).heap[w.heap.size]? = some (.deferred (some [])) := fun jump W3 hk3 => by
    have hl3 := hk3.same _ _ (by omega) hl2 rfl
    have := run_endRound (P := P) jump hl3
    rw [hrec] at this ⊢
    exact ⟨this, by rw [hrec] at hl3; exact hl3, World.putObj_heap_same (Array.getElem?_eq_some_iff.1 hl3).1, (World.putObj_heap_other (by omega)).trans (hk3.same _ _ (Nat.le_refl _) hk2 rfl)⟩
   rintro e a3 W3 hp
   cases e with
   | normal =>
    obtain ⟨hk3, hkp3, hi3⟩ := hp
    obtain ⟨hr, hl3, hl4, hk4⟩ := fin none W3 hk3
    exact ⟨_, _, hr, .inl ⟨rfl, ⟨hI _ _ _ hi3 (KM.put M _ hl3 rfl (by omega) (by omega)), hl4, hk4⟩, by rw [hsz1]; exact (hw2.trans hkp3).putObj _ _ (.inl hn1) (by omega)⟩⟩
   | ret =>
    obtain ⟨hk3, hkp3, hi3⟩ := hp
    obtain ⟨hr, hl3, hl4, hk4⟩ := fin (some .ret) W3 hk3
    exact ⟨_, _, hr, .inr ⟨rfl, ⟨.ret, hIx _ _ _ _ hi3 (KM.put M _ hl3 rfl (by omega) (by omega)), hl4, hk4⟩, by rw [hsz1]; exact (hw2.trans hkp3).putObj _ _ (.inl hn1) (by omega)⟩⟩
   | exit id =>
    obtain ⟨hk3, hkp3, hi3⟩ := hp
    obtain ⟨hr, hl3, hl4, hk4⟩ := fin (some (.exit id)) W3 hk3
    exact ⟨_, _, hr, .inr ⟨rfl, ⟨.exit id, hIx _ _ _ _ hi3 (KM.put M _ hl3 rfl (by omega) (by omega)), hl4, hk4⟩, by rw [hsz1]; exact (hw2.trans hkp3).putObj _ _ (.inl hn1) (by omega)⟩⟩
   | goto t =>
    obtain ⟨hk3, hkp3, hi3⟩ := hp
    obtain ⟨hr, hl3, hl4, hk4⟩ := fin (some (.goto t)) W3 hk3
    exact ⟨_, _, hr, .inr ⟨rfl, ⟨.goto t, hIx _ _ _ _ hi3 (KM.put M _ hl3 rfl (by omega) (by omega)), hl4, hk4⟩, by rw [hsz1]; exact (hw2.trans hkp3).putObj _ _ (.inl hn1) (by omega)⟩⟩
   | panic ch => exact hp.elim
   | outgrown => exact hp.elim
  ·rintro e W2 ⟨⟨v, rfl⟩, (⟨hi, hl, hk⟩ | ⟨pre, hSp, c, hi, hl, hk⟩)⟩
   ·exact ⟨none, _, by have := run_endLoop (P := P) hl (by rw [hrec]; simp); rw [hrec] at this; exact this, hdone _ _ (Nat.le_refl _) (hI _ _ _ hi (KM.put M _ hl rfl (by omega) (by omega))) ((World.putObj_heap_other (by omega)).trans hk)⟩
   ·exact ⟨some c, _, by have := run_endLoop (P := P) hl (by rw [hrec]; simp); rw [hrec] at this; exact this, hstop _ c pre _ (Nat.le_refl _) hSp (hIx _ _ _ _ hi (KM.put M _ hl rfl (by omega) (by omega))) ((World.putObj_heap_other (by omega)).trans hk)⟩
end Go.Proofs.YtgehkojccmkggaaDoor.K
end
section
namespace Go.Proofs.YtgehkojccmkggaaDoor.K
open Go.RowKit Go.Shelf Go.Proofs.YtgehkojccmkggaaDoorW.PrintWords Go.Proofs.YtgehkojccmkggaaDoorW.PrintLast Go.Proofs.YtgehkojccmkggaaDoorW.PrintMore
set_option linter.unusedVariables false
set_option linter.unusedSimpArgs false
attribute [local go_sem] Oper.semAt_some
theorem rows_in {l n : Nat} {P : Program} {row : String} {args : Array Value} {w : World} {R : Value → World → Prop} (h : Rows P row args w R) : RowsIn (Fence.wide.inRound l) n P row args w R :=
 fun c cs _ => let ⟨v, w', r, s⟩ := h c cs; ⟨v, w', r, stepsIn_wide.2 s⟩
theorem op_in {l n : Nat} {P : Program} {o : Oper} {a : Act} {w : World} {K : Act → World → Prop} {Q : Exit → Act → World → Prop} (hd : ∀ c, o.op ≠ .defer c) (h : o.wp P a w K Q) : o.wpIn (Fence.wide.inRound l) n P a w K Q := by
 unfold Oper.wpIn
 refine ⟨fun _ _ => trivial, ?_⟩
 rw [show (Fence.wide.inRound l).round = some l from rfl, Oper.semAt_some l _ _ hd]
 unfold Oper.wp at h
 generalize (execOp a.eval o).run P w = r at *
 cases r with
 | ok x w' =>
  cases x with
  | value v => exact h
  | skip => exact h
  | defer d => exact h
  | enter f args => exact ⟨fun h_ => (by cases h_), CallsIn.inRound l (callsIn_wide.2 h)⟩
  | row row args => exact ⟨fun h_ => (by cases h_), rows_in h⟩
  | round _ _ _ _ _ => exact h.elim
  | _ => exact h.elim
 | halt x w' => cases x <;> exact h
theorem any_in {l n : Nat} {P : Program} {md : Region.Mode} {ops : Array Oper} {Q : Exit → Act → World → Prop} (hd : ∀ (i : Nat) (o : Oper), ops[i]? = some o → ∀ c, o.op ≠ .defer c) (hQ : ¬ LetsOut Q) :
  ∀ (fuel : Nat) (listed : Array Bool) (a : Act) (w : World), wpAny P md ops Q fuel listed a w → wpAnyIn (Fence.wide.inRound l) n P md ops Q fuel listed a w
 | 0, _, _, _, h => h
 | fuel + 1, listed, a, w, h => ⟨h.1, fun i hi => by
  have h2 := h.2 i hi
  unfold wpOp at h2
  unfold wpOpIn
  split
  ·rename_i hn
   rw [hn] at h2
   exact any_in hd hQ fuel _ _ _ h2
  ·rename_i o ho
   rw [ho] at h2
   simp only at h2
   split
   ·rename_i hw
    rw [if_pos hw] at h2
    rcases h2 with h2 | h2
    ·exact Oper.wpIn_mono (fun a w h => any_in hd hQ fuel _ _ _ h) (op_in (hd i o ho) h2)
    ·exact absurd h2.2 hQ
   ·rename_i hw
    rw [if_neg hw] at h2
    exact ⟨fun _ _ => trivial, any_in hd hQ fuel _ _ _ h2⟩⟩
def noDefer (ops : Array Oper) : Bool := ops.toList.all fun o => match o.op with | .defer _ => false | _ => true
theorem noDefer_spec {ops : Array Oper} (h : noDefer ops = true) : ∀ (i : Nat) (o : Oper), ops[i]? = some o → ∀ c, o.op ≠ .defer c := by
 intro i o ho c hc
 have hm : o ∈ ops.toList := by
  rw [← Array.getElem?_toList] at ho
  exact List.mem_of_getElem? ho
 have := List.all_eq_true.1 h o hm
 rw [hc] at this
 cases this
theorem start_in {l₂ m : Nat} {P : Program} {ops : Array Oper} {Q : Exit → Act → World → Prop} {S : World → Prop} {ds : List Nat} {id n : Nat} {a : Act} {w : World} (l : Array Bool) (hm : P.follows .mixedOrders = true) (hn : ops.size = n) (hl : Array.replicate n false = l) (hd : noDefer ops = true) (hQ : ¬ LetsOut Q) (hS : S w.drew)
  (h : S w.drew → wpAnyLast P .any ops Q S ds n l a w.drew) : (Code.region id ops true).wpIn (Fence.wide.inRound l₂) m P Q a w := by
 subst hn
 subst hl
 exact wpIn_region_any hm (any_in (noDefer_spec hd) hQ _ _ _ _ (wpAny_of_last _ _ _ _ (h hS)))
theorem KR.keeps {m B : Nat} {M : Mm m} {S : Nat → Prop} {A C : World} (h : KR M S A C) (hS : ∀ i, B ≤ i → i < A.heap.size → S i) (hm : m < B) : KeepsFrom B A C :=
 ⟨h.size, fun k o hk ho _ => h.at ho (hS k hk (blk_lt ho)) (by omega)⟩
theorem KR.kbs {m : Nat} {M : Mm m} {S : Nat → Prop} {A B C : World} (hb : KB M A B) (h : KR M S B C) (hS : ∀ i, i < A.heap.size → S i) : KB M A C :=
 ⟨⟨h.os.trans hb.kp.os, h.tape.trans hb.kp.tape, h.output.trans hb.kp.output, Nat.le_trans hb.kp.size h.size, fun i hi hm => (h.block i (hS i hi) (Nat.lt_of_lt_of_le hi hb.kp.size) hm).trans (hb.kp.block i hi hm)⟩, fun x => h.memo (hb.memo x)⟩
theorem KM.box {m n : Nat} {M : Mm m} {A B : World} (h : KM M n A B) {k : Nat} {t : TypeId} {v : Value} (hk : Boxed A k t v) (hne : k ≠ m) : Boxed B k t v := h.cells hk hne
theorem KB.box {m : Nat} {M : Mm m} {A B : World} (h : KB M A B) {k : Nat} {t : TypeId} {v : Value} (hk : Boxed A k t v) (hne : k ≠ m) : Boxed B k t v := h.at hk hne
theorem beq_dec (a b : Int) : (a == b) = decide (a = b) := by rw [Bool.eq_iff_iff]; simp
theorem drawn_below {w w' : World} (h : Drawn0 w w') : Below w.heap.size w w' := by
 obtain ⟨nd, rfl⟩ := h
 exact pw_below_drewN (Below.refl _ _) _
theorem cell_alloc_old {W : World} {b i : Nat} {o : Obj} (h : b < W.heap.size) : (W.alloc o).cell? ⟨b, i, none⟩ = W.cell? ⟨b, i, none⟩ := (below_alloc (Below.refl W.heap.size W) o).cell (p := ⟨b, i, none⟩) h
def AxBox {α : Type} (m lo : Nat) (cs : α → Array Value) (t : TypeId) (Fr : α → Nat → Act) (x : α) (a' : Act) (W : World) : Prop := ∃ gp, gp ≠ m ∧ W.heap[gp]? = some (.cells (cs x) t (0, 0)) ∧ lo ≤ gp ∧ a' = Fr x gp
theorem AxBox.keep {α : Type} {m lo n : Nat} {M : Mm m} {cs : α → Array Value} {t : TypeId} {Fr : α → Nat → Act} {x : α} {a' : Act} {X Y : World} (h : AxBox m lo cs t Fr x a' X) (hk : KM M n X Y) : AxBox m lo cs t Fr x a' Y := by
 obtain ⟨gp, h1, h2, h3⟩ := h
 exact ⟨gp, h1, hk.cells h2 h1, h3⟩
theorem KR.base {m : Nat} {M : Mm m} {S : Nat → Prop} {w0 w W : World} (h : KR M S w W) (hb : Below w0.heap.size w0 w) (hS : ∀ i, i < w0.heap.size → S i) (hm : w0.heap.size ≤ m) : Below w0.heap.size w0 W :=
 ⟨h.os.trans hb.os, h.tape.trans hb.tape, h.output.trans hb.output, Nat.le_trans hb.size h.size, fun i hi => (h.block i (hS i hi) (Nat.lt_of_lt_of_le hi hb.size) (by omega)).trans (hb.block i hi)⟩
theorem KB.base {m : Nat} {M : Mm m} {w0 w W : World} (h : KB M w W) (hb : Below w0.heap.size w0 w) (hm : w0.heap.size ≤ m) : Below w0.heap.size w0 W := (h.round (fun _ => True)).base hb (fun _ _ => trivial) hm
end Go.Proofs.YtgehkojccmkggaaDoor.K
end
section
namespace Go.Proofs.YtgehkojccmkggaaDoor.H
open Go.RowKit Go.Proofs.YtgehkojccmkggaaDoorW.PrintWords Go.Proofs.YtgehkojccmkggaaDoorW.PrintLast Go.Proofs.YtgehkojccmkggaaDoorW.PrintMore
attribute [local go_sem] max2_int min2_int max_two min_two max_three min_three max_four min_four   -- for this text's walks alone
set_option linter.unusedVariables false
set_option linter.unusedSimpArgs false
def tune_lies.f (a0 : Int) (a1 : Int) (a2 : Int) : Option (Bool) := if a1 ≤ a0 then (some (decide (a0 ≤ a2))) else (some false)
set_option maxHeartbeats 8000000 in
set_option maxRecDepth 100000 in
theorem tune_lies.calls (a0 : Int) (a1 : Int) (a2 : Int) (r : Bool) (w : World) (h : tune_lies.f a0 a1 a2 = some r) :
  Calls Tryd.prog 51 #[.int .i64 a0, .int .i64 a1, .int .i64 a2] w fun e w' => e = .returned (.bool r) ∧ Drawn0 w w' := by
 have H : (if a1 ≤ a0 then (some (decide (a0 ≤ a2))) else (some false)) = some r := h
 clear h
 by_cases c4 : a1 ≤ a0
 ·rw [if_pos c4] at H
  have c4b0 : decide (a1 ≤ a0) = true := decide_eq_true c4
  clear c4
  obtain rfl := Option.some.inj H
  go_enter Tryd.func51, Tryd.ntmps51
  go_wp2
  go_ret
  exact ⟨ze, by repeat (first | exact Drawn0.refl _ | apply Drawn0.step)⟩
 ·rw [if_neg c4] at H
  have c4b0 : decide (a1 ≤ a0) = false := decide_eq_false c4
  clear c4
  obtain rfl := Option.some.inj H
  go_enter Tryd.func51, Tryd.ntmps51
  go_wp2
  go_ret
  exact ⟨ze, by repeat (first | exact Drawn0.refl _ | apply Drawn0.step)⟩
end Go.Proofs.YtgehkojccmkggaaDoor.H
end
section
namespace Go.Proofs.YtgehkojccmkggaaDoor.H
open Go.RowKit Go.Proofs.YtgehkojccmkggaaDoorW.PrintWords Go.Proofs.YtgehkojccmkggaaDoorW.PrintLast Go.Proofs.YtgehkojccmkggaaDoorW.PrintMore
attribute [local go_sem] max2_int min2_int max_two min_two max_three min_three max_four min_four   -- for this text's walks alone
set_option linter.unusedVariables false
set_option linter.unusedSimpArgs false
mutual
def tune_joints.l0 : Nat → List (S80) → Bool → List (S61) → Int → Int → List (S26) → List (S61) → List (S48) → Int → Int → Option ((List (S80)) × Bool)
 | 0, _, _, _, _, _, _, _, _, _, _ => none
 | k + 1, x4, x5, x13, x14, x15, x105000, x105001, x105002, x105003, x105004 => if x15 < x14 then (if 0 ≤ x15 then (if x15 < (x13.length : Int) then (tune_joints.l1 k x4 x5 x13 x14 x15 ((rd_T61 x13 x15).f0) (((rd_T61 x13 x15).f0).length : Int) 0 x105000 x105001 x105002 x105003 x105004 ((rd_T61 x13 x15).f0) ((rd_T61 x13 x15).f1)) else (none)) else (none)) else (tune_joints.l2 k x4 x5 x105002 (x105002.length : Int) 0 x105000 x105001 x105002 x105003 x105004)
def tune_joints.l1 : Nat → List (S80) → Bool → List (S61) → Int → Int → List Int → Int → Int → List (S26) → List (S61) → List (S48) → Int → Int → List Int → List (S26) → Option ((List (S80)) × Bool)
 | 0, _, _, _, _, _, _, _, _, _, _, _, _, _, _, _ => none
 | k + 1, x4, x5, x13, x14, x15, x20, x21, x22, x105000, x105001, x105002, x105003, x105004, x107000, x107001 => if x22 < x21 then (if 0 ≤ x22 then (if x22 < (x20.length : Int) then (if x5 = true then ((tune_lies.f (rd x20 x22) 0 (wrap64 ((x105000.length : Int) - 1))).bind fun t108 => (if t108 = true then (if x22 > 0 then (if x22 ≤ (x107001.length : Int) then (if 0 ≤ (wrap64 (x22 - 1)) then (if (wrap64 (x22 - 1)) < (x107000.length : Int) then (if (wrap64 (x22 - 1)) < (x107001.length : Int) then (if x4.length < 3518437208883 then (tune_joints.l1 k (x4 ++ [(⟨rd x107000 (wrap64 (x22 - 1)), rd x20 x22, 0, (⟨(rd_T26 x107001 (wrap64 (x22 - 1))).f0, (rd_T26 x107001 (wrap64 (x22 - 1))).f1⟩ : S26)⟩ : S80)]) t108 x13 x14 x15 x20 x21 (wrap64 (x22 + 1)) x105000 x105001 x105002 x105003 x105004 x107000 x107001) else (none)) else (none)) else (none)) else (none)) else (tune_joints.l1 k x4 t108 x13 x14 x15 x20 x21 (wrap64 (x22 + 1)) x105000 x105001 x105002 x105003 x105004 x107000 x107001)) else (tune_joints.l1 k x4 t108 x13 x14 x15 x20 x21 (wrap64 (x22 + 1)) x105000 x105001 x105002 x105003 x105004 x107000 x107001)) else (tune_joints.l1 k x4 t108 x13 x14 x15 x20 x21 (wrap64 (x22 + 1)) x105000 x105001 x105002 x105003 x105004 x107000 x107001))) else (tune_joints.l1 k x4 false x13 x14 x15 x20 x21 (wrap64 (x22 + 1)) x105000 x105001 x105002 x105003 x105004 x107000 x107001)) else (none)) else (none)) else (tune_joints.l0 k x4 x5 x13 x14 (wrap64 (x15 + 1)) x105000 x105001 x105002 x105003 x105004)
def tune_joints.l2 : Nat → List (S80) → Bool → List (S48) → Int → Int → List (S26) → List (S61) → List (S48) → Int → Int → Option ((List (S80)) × Bool)
 | 0, _, _, _, _, _, _, _, _, _, _ => none
 | k + 1, x4, x5, x68, x69, x70, x105000, x105001, x105002, x105003, x105004 => if x70 < x69 then (if 0 ≤ x70 then (if x70 < (x68.length : Int) then (if x5 = true then ((tune_lies.f ((rd_T48 x68 x70).f0) 0 (wrap64 ((x105000.length : Int) - 1))).bind fun t116 => (if t116 = true then ((tune_lies.f ((rd_T48 x68 x70).f1) 0 (wrap64 ((x105000.length : Int) - 1))).bind fun t117 => (if t117 = true then (if x4.length < 3518437208883 then (tune_joints.l2 k (x4 ++ [(⟨(rd_T48 x68 x70).f0, (rd_T48 x68 x70).f1, 1, (⟨x105003, x105004⟩ : S26)⟩ : S80)]) t117 x68 x69 (wrap64 (x70 + 1)) x105000 x105001 x105002 x105003 x105004) else (none)) else (tune_joints.l2 k x4 t117 x68 x69 (wrap64 (x70 + 1)) x105000 x105001 x105002 x105003 x105004))) else (tune_joints.l2 k x4 false x68 x69 (wrap64 (x70 + 1)) x105000 x105001 x105002 x105003 x105004))) else (tune_joints.l2 k x4 false x68 x69 (wrap64 (x70 + 1)) x105000 x105001 x105002 x105003 x105004)) else (none)) else (none)) else (some (x4, x5))
end
def tune_joints.f (k : Nat) (l0_0 : List (S26)) (l0_1 : List (S61)) (l0_2 : List (S48)) (a0_3 : Int) (a0_4 : Int) : Option ((List (S80)) × Bool) := tune_joints.l0 k ([] : List (S80)) true l0_1 (l0_1.length : Int) 0 l0_0 l0_1 l0_2 a0_3 a0_4
def tune_joints.T11 : Bool × List (List Nat × List Nat) := (true, [([], []), ([], []), ([1], [1]), ([], []), ([3], [3]), ([2, 4], [2, 4]), ([5], [5]), ([], []), ([], []), ([8], [8]), ([], []), ([10], [10]), ([9, 11], [9, 11]), ([12], [12]), ([6, 7, 13], [6, 7, 13]), ([14], [14]), ([0, 15], [0, 15]), ([16, 16, 0, 1, 2, 3, 4, 5, 6, 7, 8, 9, 10, 11, 12, 13, 14, 15, 16], [0, 16])])
def tune_joints.B11 : List Nat := [0, 0, 2, 0, 8, 30, 62, 0, 0, 256, 0, 1024, 3840, 7936, 16382, 32766, 65535, 131071]
theorem tune_joints.tab11 : rtab .any (opsOf Tryd.f58 11) = tune_joints.T11 := by kernel_rfl
theorem tune_joints.bits11 : waitsOk tune_joints.T11.2 tune_joints.B11 = true := by kernel_rfl
set_option maxHeartbeats 8000000 in
set_option maxRecDepth 100000 in
theorem tune_joints.calls (k : Nat) (A0_0 : Option Addr) (c0_0 : Nat) (l0_0 : List (S26)) (A0_1 : Option Addr) (c0_1 : Nat) (l0_1 : List (S61)) (A0_2 : Option Addr) (c0_2 : Nat) (l0_2 : List (S48)) (a0_3 : Int) (a0_4 : Int) (r1 : List (S80)) (r2 : Bool) (w : World) (hr0_0 : Kd.C k26 w A0_0 l0_0.length l0_0) (hc0_0 : l0_0.length ≤ c0_0) (hr0_1 : Kd.C k61 w A0_1 l0_1.length l0_1) (hc0_1 : l0_1.length ≤ c0_1) (hr0_2 : Kd.C k48 w A0_2 l0_2.length l0_2) (hc0_2 : l0_2.length ≤ c0_2) (h : tune_joints.f k l0_0 l0_1 l0_2 a0_3 a0_4 = some (r1, r2)) :
  Calls Tryd.prog 58 #[.agg #[.slice A0_0 l0_0.length c0_0, .slice A0_1 l0_1.length c0_1, .slice A0_2 l0_2.length c0_2, .int .i64 a0_3, .int .i64 a0_4]] w fun e w' => ∃ v0_ : Value, e = .returned (.tuple #[v0_, .bool r2]) ∧ Kd.R k80 80 w' w.heap.size (fun _ => True) v0_ r1 ∧ Below w.heap.size w w' := by
 have hu28 := Tryd.underlying28
 have hu61 := Tryd.underlying61
 have hu26 := Tryd.underlying26
 have hu80 := Tryd.underlying80
 have hu48 := Tryd.underlying48
 have HR0_0 := zh hr0_0
 have HC0_0 := zh hc0_0
 clear hr0_0 hc0_0
 have HR0_1 := zh hr0_1
 have HC0_1 := zh hc0_1
 clear hr0_1 hc0_1
 have HR0_2 := zh hr0_2
 have HC0_2 := zh hc0_2
 clear hr0_2 hc0_2
 have HB := zh (Below.refl w.heap.size w)
 have H : (tune_joints.l0 k ([] : List (S80)) true l0_1 (l0_1.length : Int) 0 l0_0 l0_1 l0_2 a0_3 a0_4) = some (r1, r2) := h
 clear h
 have H' := zh H
 clear H
 go_enter Tryd.func58, Tryd.ntmps58
 go_wp2_with (first | ((with_reducible refine gate_dst (N := 1) rfl ?_); (try (refine gate_guard (by rfl) ?_; dsimp only)); refine box_event ?hg (N := 1) ?hd (cs := #[.slice A0_0 l0_0.length c0_0, .slice A0_1 l0_1.length c0_1, .slice A0_2 l0_2.length c0_2, .int .i64 a0_3, .int .i64 a0_4]) (t := 28) ?hr ?_; (case hd => rfl); (case hg => rfl); (case hr => first | (go_simp; done) | (go_simp; rfl)); intro gb104 hg w2 hbox hb; have BK104 := zh (hbox); have GW104 := zh ((by rw [hg]; exact (below_size zb) : w.heap.size ≤ gb104)); have GE104 := zh ((by rw [hg]; exact (below_size zb) : w.heap.size ≤ gb104)); replace HB := zh (below_step zb hb); clear hb hbox hg; obtain ⟨hcz3_0, hcz3_1, hcz3_2, hcz3_3, hcz3_4⟩ := zC5 BK104.out; obtain ⟨hfz3_0, hfz3_1, hfz3_2, hfz3_3, hfz3_4⟩ := zF5 BK104.out))
 go_loopg [4, 5, 15] k (fun kq v4 v5 v15 w' => ∃ (x4_1 : List (S80)) (x5_1 : Bool) (x15_1 : Int), v5 = .bool x5_1 ∧ v15 = .int .i64 x15_1 ∧ Aside0 (tune_joints.l0 kq x4_1 x5_1 l0_1 (l0_1.length : Int) x15_1 l0_0 l0_1 l0_2 a0_3 a0_4 = some (r1, r2)) ∧ Aside0 (kq ≤ k) ∧ Aside0 (Kd.R k80 80 w' w.heap.size (fun _ => True) v4 x4_1) ∧ Aside0 (w'.heap[gb104]? = some (.cells #[(.slice A0_0 l0_0.length c0_0), (.slice A0_1 l0_1.length c0_1), (.slice A0_2 l0_2.length c0_2), .int .i64 a0_3, .int .i64 a0_4] 28 (0, 0))) ∧ Aside0 (Below w.heap.size w w'))
 case atStart => exact ⟨(([] : List (S80))), (true), (0), ze, ze, H', ⟨Nat.le_refl _⟩, ⟨by first | exact Kd.R_nil _ _ _ _ _ | exact Kd.N_nil _ _ _ _ _ | exact Kd.V_nil _ _ _ _ _ | exact Kd.Q_nil _ _ _ _ _ | exact Kd.S_nil _ _ _ _ _⟩, ⟨zc BK104⟩, ⟨zb⟩⟩
 case round =>
  clear H'
  try clear p2
  try clear hcz3_0
  try clear hcz3_1
  try clear hcz3_2
  try clear hcz3_3
  try clear hcz3_4
  try clear hfz3_0
  try clear hfz3_1
  try clear hfz3_2
  try clear hfz3_3
  try clear hfz3_4
  obtain ⟨x4_1, x5_1, x15_1, rfl, rfl, HA, HK1, HO_4, BK104, HB⟩ := hrel
  cases gk with
  | zero => exact absurd HA.out (by simp [tune_joints.l0])
  | succ k1 =>
   have H := HA.out
   clear HA
   simp only [tune_joints.l0] at H
   by_cases c4 : x15_1 < (l0_1.length : Int)
   ·rw [if_pos c4] at H
    have c4b0 : decide (x15_1 < (l0_1.length : Int)) = true := decide_eq_true c4
    clear c4
    by_cases c5 : 0 ≤ x15_1
    ·rw [if_pos c5] at H
     have c5b0 : decide (0 ≤ x15_1) = true := decide_eq_true c5
     clear c5
     by_cases c6 : x15_1 < (l0_1.length : Int)
     ·rw [if_pos c6] at H
      have c6b0 : decide (x15_1 < (l0_1.length : Int)) = true := decide_eq_true c6
      clear c6
      have H' := zh H
      clear H
      have p105 : 0 ≤ (x15_1 : Int) := of_decide_eq_true zs
      have q105 : x15_1 < (l0_1.length : Int) := of_decide_eq_true zs
      obtain ⟨ad105, A105_0, c105_0, A105_1, c105_1, e105, hx105_0, hx105_1, hl105_0, hi105_0, hl105_1, hi105_1⟩ := at_T61 HR0_1.out x15_1 p105 q105
      cases e105
      replace hx105_0 := ve HB.out hx105_0
      replace hx105_1 := ve HB.out hx105_1
      have HR105_0 := zh hi105_0
      have HC105_0 := zh hl105_0
      clear hi105_0 hl105_0
      have HR105_1 := zh hi105_1
      have HC105_1 := zh hl105_1
      clear hi105_1 hl105_1
      replace p105 := eq_true p105
      replace q105 := eq_true q105
      go_wp2_with (first | ((with_reducible refine gate_dst (N := 7) rfl ?_); (try (refine gate_guard (by rfl) ?_; dsimp only)); refine box_event ?hg (N := 7) ?hd (cs := #[.slice none 0 0, .slice none 0 0]) (t := 61) ?hr ?_; (case hd => rfl); (case hg => rfl); (case hr => first | (go_simp; done) | (go_simp; rfl)); intro gb106 hg w7 hbox hb; replace HO_4 := zh (Kd.R_below (zR HO_4) hb); have BK106 := zh (hbox); have GW106 := zh ((by rw [hg]; exact (below_size zb) : w.heap.size ≤ gb106)); have GE106 := zh ((by rw [hg]; exact (below_size zb) : w.heap.size ≤ gb106)); replace HB := zh (below_step zb hb); have NB104_106 := zh ((by rw [hg]; exact Nat.ne_of_lt (blk_lt (g := gb104) (o := .cells #[.slice A0_0 l0_0.length c0_0, .slice (some ad105) l0_1.length c0_1, .slice A0_2 l0_2.length c0_2, .int .i64 a0_3, .int .i64 a0_4] 28 (0, 0)) (zc BK104)) : gb104 ≠ gb106)); have NB106_104 := zh ((by rw [hg]; exact Nat.ne_of_gt (blk_lt (g := gb104) (o := .cells #[.slice A0_0 l0_0.length c0_0, .slice (some ad105) l0_1.length c0_1, .slice A0_2 l0_2.length c0_2, .int .i64 a0_3, .int .i64 a0_4] 28 (0, 0)) (zc BK104)) : gb106 ≠ gb104)); replace BK104 := zX BK104 hb; clear hb hbox hg; have hnb8 := NB106_104.out; have hnc8 := NB104_106.out; obtain ⟨hcz9_0, hcz9_1⟩ := zC2 BK106.out; obtain ⟨hfz9_0, hfz9_1⟩ := zF2 BK106.out))
      go_loopg [4, 5, 22] k1 (fun kq v4 v5 v22 w' => ∃ (x4_2 : List (S80)) (x5_2 : Bool) (x22_2 : Int), v5 = .bool x5_2 ∧ v22 = .int .i64 x22_2 ∧ Aside0 (tune_joints.l1 kq x4_2 x5_2 l0_1 (l0_1.length : Int) x15_1 ((rd_T61 l0_1 x15_1).f0) (((rd_T61 l0_1 x15_1).f0).length : Int) x22_2 l0_0 l0_1 l0_2 a0_3 a0_4 ((rd_T61 l0_1 x15_1).f0) ((rd_T61 l0_1 x15_1).f1) = some (r1, r2)) ∧ Aside0 (kq ≤ k1) ∧ Aside0 (Kd.R k80 80 w' w.heap.size (fun _ => True) v4 x4_2) ∧ Aside0 (w'.heap[gb104]? = some (.cells #[(.slice A0_0 l0_0.length c0_0), (.slice (some ad105) l0_1.length c0_1), (.slice A0_2 l0_2.length c0_2), .int .i64 a0_3, .int .i64 a0_4] 28 (0, 0))) ∧ Aside0 (w'.heap[gb106]? = some (.cells #[(.slice A105_0 ((rd_T61 l0_1 x15_1).f0).length c105_0), (.slice A105_1 ((rd_T61 l0_1 x15_1).f1).length c105_1)] 61 (0, 0))) ∧ Aside0 (Below w.heap.size w w'))
      case atStart => exact ⟨(x4_1), (x5_1), (0), ze, ze, H', ⟨Nat.le_refl _⟩, ⟨by (with_reducible repeat (first | apply Kd.R_alloc | apply Kd.R_drewN | apply Kd.R_drew)); exact Kd.R_mono (Kd.R_far (p := ⟨gb106, 1, none⟩) (Kd.R_far (p := ⟨gb106, 0, none⟩) (Kd.R_types HO_4.out BK106.out (by decide)) (fun _ hk => hk.2) (.slice A105_0 ((rd_T61 l0_1 x15_1).f0).length c105_0)) (fun _ hk => hk.2) (.slice A105_1 ((rd_T61 l0_1 x15_1).f1).length c105_1)) (fun _ hk => trivial)⟩, ⟨by (with_reducible repeat (first | refine blk_drewN ?_ _ | refine blk_drew ?_ | refine blk_alloc ?_ _)); refine blk_far ?_ NB104_106.out _; (with_reducible repeat (first | refine blk_drewN ?_ _ | refine blk_drew ?_ | refine blk_alloc ?_ _)); refine blk_far ?_ NB104_106.out _; (with_reducible repeat (first | refine blk_drewN ?_ _ | refine blk_drew ?_ | refine blk_alloc ?_ _)); exact BK104.out⟩, ⟨by (with_reducible repeat (first | refine blk_drewN ?_ _ | refine blk_drew ?_ | refine blk_alloc ?_ _)); refine blk_put (cs := #[.slice A105_0 ((rd_T61 l0_1 x15_1).f0).length c105_0, .slice none 0 0]) ?_ 1 _ rfl; (with_reducible repeat (first | refine blk_drewN ?_ _ | refine blk_drew ?_ | refine blk_alloc ?_ _)); refine blk_put (cs := #[.slice none 0 0, .slice none 0 0]) ?_ 0 _ rfl; (with_reducible repeat (first | refine blk_drewN ?_ _ | refine blk_drew ?_ | refine blk_alloc ?_ _)); exact BK106.out⟩, ⟨zb⟩⟩
      case round =>
       clear H'
       try clear c1
       try clear p1
       try clear q1
       try clear hx1
       try clear p2
       try clear c4
       try clear c4b0
       try clear c5
       try clear c5b0
       try clear c6
       try clear c6b0
       try clear c8
       try clear hcz3_0
       try clear hcz3_1
       try clear hcz3_2
       try clear hcz3_3
       try clear hcz3_4
       try clear hcz9_0
       try clear hcz9_1
       try clear hfz3_0
       try clear hfz3_1
       try clear hfz3_2
       try clear hfz3_3
       try clear hfz3_4
       try clear hfz9_0
       try clear hfz9_1
       try clear hx105_0
       try clear hx105_1
       try clear p105
       try clear p2
       try clear q105
       obtain ⟨x4_2, x5_2, x22_2, rfl, rfl, HA, HK2, HO_4, BK104, BK106, HB⟩ := hrel
       cases gk with
       | zero => exact absurd HA.out (by simp [tune_joints.l1])
       | succ k2 =>
        have H := HA.out
        clear HA
        simp only [tune_joints.l1] at H
        by_cases c10 : x22_2 < (((rd_T61 l0_1 x15_1).f0).length : Int)
        ·rw [if_pos c10] at H
         have c10b0 : decide (x22_2 < (((rd_T61 l0_1 x15_1).f0).length : Int)) = true := decide_eq_true c10
         clear c10
         by_cases c11 : 0 ≤ x22_2
         ·rw [if_pos c11] at H
          have c11b0 : decide (0 ≤ x22_2) = true := decide_eq_true c11
          clear c11
          by_cases c12 : x22_2 < (((rd_T61 l0_1 x15_1).f0).length : Int)
          ·rw [if_pos c12] at H
           have c12b0 : decide (x22_2 < (((rd_T61 l0_1 x15_1).f0).length : Int)) = true := decide_eq_true c12
           clear c12
           by_cases c13 : x5_2 = true
           ·subst c13
            have H1 : ((tune_lies.f (rd ((rd_T61 l0_1 x15_1).f0) x22_2) 0 (wrap64 ((l0_0.length : Int) - 1))).bind fun t108 => (if t108 = true then (if x22_2 > 0 then (if x22_2 ≤ (((rd_T61 l0_1 x15_1).f1).length : Int) then (if 0 ≤ (wrap64 (x22_2 - 1)) then (if (wrap64 (x22_2 - 1)) < (((rd_T61 l0_1 x15_1).f0).length : Int) then (if (wrap64 (x22_2 - 1)) < (((rd_T61 l0_1 x15_1).f1).length : Int) then (if x4_2.length < 3518437208883 then (tune_joints.l1 k2 (x4_2 ++ [(⟨rd ((rd_T61 l0_1 x15_1).f0) (wrap64 (x22_2 - 1)), rd ((rd_T61 l0_1 x15_1).f0) x22_2, 0, (⟨(rd_T26 ((rd_T61 l0_1 x15_1).f1) (wrap64 (x22_2 - 1))).f0, (rd_T26 ((rd_T61 l0_1 x15_1).f1) (wrap64 (x22_2 - 1))).f1⟩ : S26)⟩ : S80)]) t108 l0_1 (l0_1.length : Int) x15_1 ((rd_T61 l0_1 x15_1).f0) (((rd_T61 l0_1 x15_1).f0).length : Int) (wrap64 (x22_2 + 1)) l0_0 l0_1 l0_2 a0_3 a0_4 ((rd_T61 l0_1 x15_1).f0) ((rd_T61 l0_1 x15_1).f1)) else (none)) else (none)) else (none)) else (none)) else (tune_joints.l1 k2 x4_2 t108 l0_1 (l0_1.length : Int) x15_1 ((rd_T61 l0_1 x15_1).f0) (((rd_T61 l0_1 x15_1).f0).length : Int) (wrap64 (x22_2 + 1)) l0_0 l0_1 l0_2 a0_3 a0_4 ((rd_T61 l0_1 x15_1).f0) ((rd_T61 l0_1 x15_1).f1))) else (tune_joints.l1 k2 x4_2 t108 l0_1 (l0_1.length : Int) x15_1 ((rd_T61 l0_1 x15_1).f0) (((rd_T61 l0_1 x15_1).f0).length : Int) (wrap64 (x22_2 + 1)) l0_0 l0_1 l0_2 a0_3 a0_4 ((rd_T61 l0_1 x15_1).f0) ((rd_T61 l0_1 x15_1).f1))) else (tune_joints.l1 k2 x4_2 t108 l0_1 (l0_1.length : Int) x15_1 ((rd_T61 l0_1 x15_1).f0) (((rd_T61 l0_1 x15_1).f0).length : Int) (wrap64 (x22_2 + 1)) l0_0 l0_1 l0_2 a0_3 a0_4 ((rd_T61 l0_1 x15_1).f0) ((rd_T61 l0_1 x15_1).f1)))) = some (r1, r2) := by rw [if_pos rfl] at H; exact H
            clear H
            have H := H1
            clear H1
            replace H := Option.bind_eq_some_iff.mp H
            obtain ⟨t108, A140, H⟩ := H
            replace H : (if t108 = true then (if x22_2 > 0 then (if x22_2 ≤ (((rd_T61 l0_1 x15_1).f1).length : Int) then (if 0 ≤ (wrap64 (x22_2 - 1)) then (if (wrap64 (x22_2 - 1)) < (((rd_T61 l0_1 x15_1).f0).length : Int) then (if (wrap64 (x22_2 - 1)) < (((rd_T61 l0_1 x15_1).f1).length : Int) then (if x4_2.length < 3518437208883 then (tune_joints.l1 k2 (x4_2 ++ [(⟨rd ((rd_T61 l0_1 x15_1).f0) (wrap64 (x22_2 - 1)), rd ((rd_T61 l0_1 x15_1).f0) x22_2, 0, (⟨(rd_T26 ((rd_T61 l0_1 x15_1).f1) (wrap64 (x22_2 - 1))).f0, (rd_T26 ((rd_T61 l0_1 x15_1).f1) (wrap64 (x22_2 - 1))).f1⟩ : S26)⟩ : S80)]) t108 l0_1 (l0_1.length : Int) x15_1 ((rd_T61 l0_1 x15_1).f0) (((rd_T61 l0_1 x15_1).f0).length : Int) (wrap64 (x22_2 + 1)) l0_0 l0_1 l0_2 a0_3 a0_4 ((rd_T61 l0_1 x15_1).f0) ((rd_T61 l0_1 x15_1).f1)) else (none)) else (none)) else (none)) else (none)) else (tune_joints.l1 k2 x4_2 t108 l0_1 (l0_1.length : Int) x15_1 ((rd_T61 l0_1 x15_1).f0) (((rd_T61 l0_1 x15_1).f0).length : Int) (wrap64 (x22_2 + 1)) l0_0 l0_1 l0_2 a0_3 a0_4 ((rd_T61 l0_1 x15_1).f0) ((rd_T61 l0_1 x15_1).f1))) else (tune_joints.l1 k2 x4_2 t108 l0_1 (l0_1.length : Int) x15_1 ((rd_T61 l0_1 x15_1).f0) (((rd_T61 l0_1 x15_1).f0).length : Int) (wrap64 (x22_2 + 1)) l0_0 l0_1 l0_2 a0_3 a0_4 ((rd_T61 l0_1 x15_1).f0) ((rd_T61 l0_1 x15_1).f1))) else (tune_joints.l1 k2 x4_2 t108 l0_1 (l0_1.length : Int) x15_1 ((rd_T61 l0_1 x15_1).f0) (((rd_T61 l0_1 x15_1).f0).length : Int) (wrap64 (x22_2 + 1)) l0_0 l0_1 l0_2 a0_3 a0_4 ((rd_T61 l0_1 x15_1).f0) ((rd_T61 l0_1 x15_1).f1))) = some (r1, r2) := H
            have A14 := zh A140
            clear A140
            by_cases c15 : t108 = true
            ·subst c15
             have H1 : (if x22_2 > 0 then (if x22_2 ≤ (((rd_T61 l0_1 x15_1).f1).length : Int) then (if 0 ≤ (wrap64 (x22_2 - 1)) then (if (wrap64 (x22_2 - 1)) < (((rd_T61 l0_1 x15_1).f0).length : Int) then (if (wrap64 (x22_2 - 1)) < (((rd_T61 l0_1 x15_1).f1).length : Int) then (if x4_2.length < 3518437208883 then (tune_joints.l1 k2 (x4_2 ++ [(⟨rd ((rd_T61 l0_1 x15_1).f0) (wrap64 (x22_2 - 1)), rd ((rd_T61 l0_1 x15_1).f0) x22_2, 0, (⟨(rd_T26 ((rd_T61 l0_1 x15_1).f1) (wrap64 (x22_2 - 1))).f0, (rd_T26 ((rd_T61 l0_1 x15_1).f1) (wrap64 (x22_2 - 1))).f1⟩ : S26)⟩ : S80)]) true l0_1 (l0_1.length : Int) x15_1 ((rd_T61 l0_1 x15_1).f0) (((rd_T61 l0_1 x15_1).f0).length : Int) (wrap64 (x22_2 + 1)) l0_0 l0_1 l0_2 a0_3 a0_4 ((rd_T61 l0_1 x15_1).f0) ((rd_T61 l0_1 x15_1).f1)) else (none)) else (none)) else (none)) else (none)) else (tune_joints.l1 k2 x4_2 true l0_1 (l0_1.length : Int) x15_1 ((rd_T61 l0_1 x15_1).f0) (((rd_T61 l0_1 x15_1).f0).length : Int) (wrap64 (x22_2 + 1)) l0_0 l0_1 l0_2 a0_3 a0_4 ((rd_T61 l0_1 x15_1).f0) ((rd_T61 l0_1 x15_1).f1))) else (tune_joints.l1 k2 x4_2 true l0_1 (l0_1.length : Int) x15_1 ((rd_T61 l0_1 x15_1).f0) (((rd_T61 l0_1 x15_1).f0).length : Int) (wrap64 (x22_2 + 1)) l0_0 l0_1 l0_2 a0_3 a0_4 ((rd_T61 l0_1 x15_1).f0) ((rd_T61 l0_1 x15_1).f1))) = some (r1, r2) := by rw [if_pos rfl] at H; exact H
             clear H
             have H := H1
             clear H1
             by_cases c16 : x22_2 > 0
             ·rw [if_pos c16] at H
              have c16b0 : decide (0 < x22_2) = true := decide_eq_true c16
              clear c16
              by_cases c17 : x22_2 ≤ (((rd_T61 l0_1 x15_1).f1).length : Int)
              ·rw [if_pos c17] at H
               have c17b0 : decide (x22_2 ≤ (((rd_T61 l0_1 x15_1).f1).length : Int)) = true := decide_eq_true c17
               clear c17
               obtain ⟨ji18, hji18⟩ : ∃ j_ : Int, (wrap64 (x22_2 - 1)) = j_ := ⟨_, rfl⟩
               replace H : (if 0 ≤ (ji18) then (if (ji18) < (((rd_T61 l0_1 x15_1).f0).length : Int) then (if (ji18) < (((rd_T61 l0_1 x15_1).f1).length : Int) then (if x4_2.length < 3518437208883 then (tune_joints.l1 k2 (x4_2 ++ [(⟨rd ((rd_T61 l0_1 x15_1).f0) (ji18), rd ((rd_T61 l0_1 x15_1).f0) x22_2, 0, (⟨(rd_T26 ((rd_T61 l0_1 x15_1).f1) (ji18)).f0, (rd_T26 ((rd_T61 l0_1 x15_1).f1) (ji18)).f1⟩ : S26)⟩ : S80)]) true l0_1 (l0_1.length : Int) x15_1 ((rd_T61 l0_1 x15_1).f0) (((rd_T61 l0_1 x15_1).f0).length : Int) (wrap64 (x22_2 + 1)) l0_0 l0_1 l0_2 a0_3 a0_4 ((rd_T61 l0_1 x15_1).f0) ((rd_T61 l0_1 x15_1).f1)) else (none)) else (none)) else (none)) else (none)) = some (r1, r2) := by first | (rw [hji18] at H; exact H) | (simp only [hji18] at H ⊢; exact H)
               (try rw [hji18] at A14)
               have hji18w : (IntKind.i64.wrap (x22_2 - 1)) = ji18 := (i64_w _).trans hji18
               by_cases c19 : 0 ≤ (ji18)
               ·rw [if_pos c19] at H
                have c19b0 : decide (0 ≤ (ji18)) = true := decide_eq_true c19
                clear c19
                by_cases c20 : (ji18) < (((rd_T61 l0_1 x15_1).f0).length : Int)
                ·rw [if_pos c20] at H
                 have c20b0 : decide ((ji18) < (((rd_T61 l0_1 x15_1).f0).length : Int)) = true := decide_eq_true c20
                 clear c20
                 by_cases c21 : (ji18) < (((rd_T61 l0_1 x15_1).f1).length : Int)
                 ·rw [if_pos c21] at H
                  have c21b0 : decide ((ji18) < (((rd_T61 l0_1 x15_1).f1).length : Int)) = true := decide_eq_true c21
                  clear c21
                  by_cases c22 : x4_2.length < 3518437208883
                  ·rw [if_pos c22] at H
                   have LMc22 := zh c22
                   clear c22
                   obtain ⟨y111, hy111⟩ : ∃ y_ : List (S80), y_ = (x4_2 ++ [(⟨rd ((rd_T61 l0_1 x15_1).f0) (ji18), rd ((rd_T61 l0_1 x15_1).f0) x22_2, 0, (⟨(rd_T26 ((rd_T61 l0_1 x15_1).f1) (ji18)).f0, (rd_T26 ((rd_T61 l0_1 x15_1).f1) (ji18)).f1⟩ : S26)⟩ : S80)]) := ⟨_, rfl⟩
                   replace H : (tune_joints.l1 k2 y111 true l0_1 (l0_1.length : Int) x15_1 ((rd_T61 l0_1 x15_1).f0) (((rd_T61 l0_1 x15_1).f0).length : Int) (wrap64 (x22_2 + 1)) l0_0 l0_1 l0_2 a0_3 a0_4 ((rd_T61 l0_1 x15_1).f0) ((rd_T61 l0_1 x15_1).f1)) = some (r1, r2) := by first | (rw [hy111]; with_reducible exact H) | (have H2_ := (Option.bind_some _ _).symm.trans H; rw [hy111]; with_reducible exact H2_) | (have H2_ := (Option.bind_some _ _).symm.trans H; with_reducible exact H2_) | with_reducible exact H | (rw [hy111]; exact H) | exact H
                   have Ny111 := zh hy111
                   clear hy111
                   have H' := zh H
                   clear H
                   have p107 : 0 ≤ (x22_2 : Int) := of_decide_eq_true zs
                   have q107 : x22_2 < (((rd_T61 l0_1 x15_1).f0).length : Int) := of_decide_eq_true zs
                   obtain ⟨ad107, e107, hx107_0⟩ := Kd.at_int HR105_0.out x22_2 p107 q107
                   cases e107
                   replace hx107_0 := ve HB.out hx107_0
                   replace p107 := eq_true p107
                   replace q107 := eq_true q107
                   have hnb23 := NB104_106.out
                   have hnc23 := NB106_104.out
                   obtain ⟨hcz24_0, hcz24_1, hcz24_2, hcz24_3, hcz24_4⟩ := zC5 BK104.out
                   obtain ⟨hfz24_0, hfz24_1, hfz24_2, hfz24_3, hfz24_4⟩ := zF5 BK104.out
                   try go_wp2_with (first | (go_at_call 51; (with_reducible refine (tune_lies.calls (rd ((rd_T61 l0_1 x15_1).f0) x22_2) 0 (wrap64 ((l0_0.length : Int) - 1)) true _ A14.out).mono ?_); rintro e w' ⟨rfl, ⟨nd, rfl⟩⟩; obtain ⟨hcz25_0, hcz25_1⟩ := zC2 BK106.out; obtain ⟨hfz25_0, hfz25_1⟩ := zF2 BK106.out))
                   (try (rw [drewN_self wr]; generalize hq_ : World.drewN wr _ = wr; have n0_ : Aside0 (Kd.R k80 80 wr w.heap.size (fun _ => True) u4 x4_2) := ⟨by rw [← hq_]; exact (zR HO_4)⟩; have n1_ : Aside0 (wr.heap[gb104]? = some (.cells #[.slice A0_0 l0_0.length c0_0, .slice (some ad105) l0_1.length c0_1, .slice A0_2 l0_2.length c0_2, .int .i64 a0_3, .int .i64 a0_4] 28 (0, 0))) := ⟨by rw [← hq_]; exact (zc BK104)⟩; have n2_ : Aside0 (wr.heap[gb106]? = some (.cells #[.slice (some ad107) ((rd_T61 l0_1 x15_1).f0).length c105_0, .slice A105_1 ((rd_T61 l0_1 x15_1).f1).length c105_1] 61 (0, 0))) := ⟨by rw [← hq_]; exact (zc BK106)⟩; have n3_ : Aside0 (Below w.heap.size w wr) := ⟨by rw [← hq_]; exact zb⟩; clear HO_4 BK104 BK106 HB hq_; have HO_4 := n0_; have BK104 := n1_; have BK106 := n2_; have HB := n3_; clear n0_ n1_ n2_ n3_))
                   replace HO_4 := zh (Kd.R_drew HO_4.out)
                   replace BK104 := zh (blk_drew BK104.out)
                   replace BK106 := zh (blk_drew BK106.out)
                   replace HB := zh (below_drew1 HB.out)
                   have p109 : 0 ≤ ((ji18) : Int) := of_decide_eq_true zs
                   have q109 : (ji18) < (((rd_T61 l0_1 x15_1).f0).length : Int) := of_decide_eq_true zs
                   obtain ⟨ad109, e109, hx109_0⟩ := Kd.at_int HR105_0.out (ji18) p109 q109
                   have hw109_0 := hx109_0
                   obtain rfl : ad107 = ad109 := (by injection e109)
                   replace hx109_0 := ve HB.out hx109_0
                   replace p109 := eq_true p109
                   replace q109 := eq_true q109
                   have p110 : 0 ≤ ((ji18) : Int) := of_decide_eq_true zs
                   have q110 : (ji18) < (((rd_T61 l0_1 x15_1).f1).length : Int) := of_decide_eq_true zs
                   obtain ⟨ad110, e110, hx110_0, hx110_1⟩ := at_T26 HR105_1.out (ji18) p110 q110
                   have hw110_1 := hx110_1
                   have hw110_0 := hx110_0
                   cases e110
                   replace hx110_0 := ve HB.out hx110_0
                   replace hx110_1 := ve HB.out hx110_1
                   replace p110 := eq_true p110
                   replace q110 := eq_true q110
                   refine start_ (n := 18) (S := fun w' => w'.cell? ⟨gb106, 0, none⟩ = some (.slice (some ad107) ((rd_T61 l0_1 x15_1).f0).length c105_0) ∧ w'.cell? ⟨gb106, 1, none⟩ = some (.slice (some ad110) ((rd_T61 l0_1 x15_1).f1).length c105_1) ∧ w'.cell? (ad107.add ((ji18)).toNat) = some (.int .i64 (rd ((rd_T61 l0_1 x15_1).f0) (ji18))) ∧ w'.cell? (ad110.add (((ji18)).toNat * 2)) = some (.int .i64 ((rd_T26 ((rd_T61 l0_1 x15_1).f1) (ji18)).f0)) ∧ w'.cell? ⟨(ad110.add (((ji18)).toNat * 2)).block, (ad110.add (((ji18)).toNat * 2)).off + 1, none⟩ = some (.int .i64 ((rd_T26 ((rd_T61 l0_1 x15_1).f1) (ji18)).f1))) (ds := []) (Array.replicate 18 false) zk rfl rfl ⟨vb BK106 0, vb BK106 1, (ve HB.out hw109_0 :), (ve HB.out hw110_0 :), (ve HB.out hw110_1 :)⟩ (fun hHeld => ?_); refine with_tabW tune_joints.tab11 tune_joints.bits11 (fun HT_ HW_ => ?_)
                   generalize wr.drew = w26 at HO_4 BK104 BK106 HB hx109_0 hx110_0 hx110_1 hHeld ⊢
                   refine zu 0 ?_
                   refine zu 1 ?_
                   refine zu 3 ?_
                   refine zu 4 ?_
                   refine zu 7 ?_
                   refine zu 8 ?_
                   refine zu 10 ?_
                   refine zu 11 ?_
                   refine zt 2 ?_
                   refine zu 5 ?_
                   refine zt 6 ?_
                   refine zt 9 ?_
                   refine zu 12 ?_
                   refine zt 13 ?_
                   refine zu 14 ?_
                   refine zo 15 (fun K hK => ?_)
                   refine value_ (w1 := ?_) (v := ?_) (by rfl) rfl ?_ ?_
                   rotate_left 2
                   ·go_simp
                    constructor
                    ·rfl
                    ·rfl
                   refine hK.out _ _ ⟨(blk_cell (blk_alloc BK106.out _) 0).trans rfl, (blk_cell (blk_alloc BK106.out _) 1).trans rfl, (World.cell?_alloc_lt _ _ _ (World.block_lt_of_cell? _ _ ((ve HB.out hw109_0 :)))).trans ((ve HB.out hw109_0 :)), (World.cell?_alloc_lt _ _ _ (World.block_lt_of_cell? _ _ ((ve HB.out hw110_0 :)))).trans ((ve HB.out hw110_0 :)), (World.cell?_alloc_lt _ _ _ (World.block_lt_of_cell? _ _ ((ve HB.out hw110_1 :)))).trans ((ve HB.out hw110_1 :))⟩ (fun hHeld => ?_)
                   clear hK K
                   refine zr 63 _ ?_
                   refine zo 16 (fun K hK => ?_)
                   refine Kd.R_append_step k80 (w0 := w) w.heap.size (by rfl) (.tmp 48) (.tmp 63) 73 80 (.agg #[(.int .i64 0), (.int .i64 0), (.int .i64 0), (.int .i64 0), (.int .i64 0)]) 40 rfl Tryd.underlying73 info80 rfl (by decide) (by omega) u4 x4_2 (⟨rd ((rd_T61 l0_1 x15_1).f0) (ji18), rd ((rd_T61 l0_1 x15_1).f0) x22_2, 0, (⟨(rd_T26 ((rd_T61 l0_1 x15_1).f1) (ji18)).f0, (rd_T26 ((rd_T61 l0_1 x15_1).f1) (ji18)).f1⟩ : S26)⟩ : S80) [.int .i64 (rd ((rd_T61 l0_1 x15_1).f0) (ji18)), .int .i64 (rd ((rd_T61 l0_1 x15_1).f0) x22_2), .int .i64 0, .int .i64 ((rd_T26 ((rd_T61 l0_1 x15_1).f1) (ji18)).f0), .int .i64 ((rd_T26 ((rd_T61 l0_1 x15_1).f1) (ji18)).f1)] (fun _ => True) (fun _ => False) rfl rfl ?aP (fun _ hk => hk.elim) ?aF ?aO ?aB ?aS ?aL ?_
                   (case aP => exact k80_mkM _ _ _ (⟨rd ((rd_T61 l0_1 x15_1).f0) (ji18), rd ((rd_T61 l0_1 x15_1).f0) x22_2, 0, (⟨(rd_T26 ((rd_T61 l0_1 x15_1).f1) (ji18)).f0, (rd_T26 ((rd_T61 l0_1 x15_1).f1) (ji18)).f1⟩ : S26)⟩ : S80))
                   (case aB => exact zb)
                   (case aF => exact (fun _ _ => trivial))
                   (case aO => exact (zR HO_4))
                   (case aS => exact (below_size zb))
                   (case aL => have := LMc22.out; omega)
                   intro v112 w27 ho hb hg hat
                   rw [← Ny111.out] at ho
                   replace BK104 := zh (blk_grown (g := gb104) (o := .cells #[.slice A0_0 l0_0.length c0_0, .slice (some ad105) l0_1.length c0_1, .slice A0_2 l0_2.length c0_2, .int .i64 a0_3, .int .i64 a0_4] 28 (0, 0)) (zc BK104) hg (Kd.R_ne HO_4.out BK104.out (by decide)))
                   replace BK106 := zh (blk_grown (g := gb106) (o := .cells #[.slice (some ad107) ((rd_T61 l0_1 x15_1).f0).length c105_0, .slice (some ad110) ((rd_T61 l0_1 x15_1).f1).length c105_1] 61 (0, 0)) (zc BK106) hg (Kd.R_ne HO_4.out BK106.out (by decide)))
                   replace HB := zh (hb)
                   have HO113 := zh (ho)
                   clear HO_4 ho hb hg hat
                   refine hK.out _ _ ⟨vb BK106 0, vb BK106 1, (ve HB.out hw109_0 :), (ve HB.out hw110_0 :), (ve HB.out hw110_1 :)⟩ (fun hHeld => ?_)
                   clear hK K
                   refine zr 64 _ ?_
                   refine zu 17 ?_
                   refine zd ?_
                   try go_wp2
                   go_roundg k2
                   case measure => have := HK1.out; have := HK2.out; omega
                   case rel => exact ⟨(y111), (true), (wrap64 (x22_2 + 1)), ze, ze, H', ⟨zw HK1 HK2⟩, ⟨zR HO113⟩, ⟨zc BK104⟩, ⟨zc BK106⟩, ⟨zb⟩⟩
                  ·rw [if_neg c22] at H
                   exact absurd H (by simp)
                 ·rw [if_neg c21] at H
                  exact absurd H (by simp)
                ·rw [if_neg c20] at H
                 exact absurd H (by simp)
               ·rw [if_neg c19] at H
                exact absurd H (by simp)
              ·rw [if_neg c17] at H
               have c17b0 : decide (x22_2 ≤ (((rd_T61 l0_1 x15_1).f1).length : Int)) = false := decide_eq_false c17
               clear c17
               have H' := zh H
               clear H
               have p107 : 0 ≤ (x22_2 : Int) := of_decide_eq_true zs
               have q107 : x22_2 < (((rd_T61 l0_1 x15_1).f0).length : Int) := of_decide_eq_true zs
               obtain ⟨ad107, e107, hx107_0⟩ := Kd.at_int HR105_0.out x22_2 p107 q107
               cases e107
               replace hx107_0 := ve HB.out hx107_0
               replace p107 := eq_true p107
               replace q107 := eq_true q107
               have hnb28 := NB104_106.out
               have hnc28 := NB106_104.out
               obtain ⟨hcz29_0, hcz29_1, hcz29_2, hcz29_3, hcz29_4⟩ := zC5 BK104.out
               obtain ⟨hfz29_0, hfz29_1, hfz29_2, hfz29_3, hfz29_4⟩ := zF5 BK104.out
               go_wp2_with (first | (go_at_call 51; (with_reducible refine (tune_lies.calls (rd ((rd_T61 l0_1 x15_1).f0) x22_2) 0 (wrap64 ((l0_0.length : Int) - 1)) true _ A14.out).mono ?_); rintro e w' ⟨rfl, ⟨nd, rfl⟩⟩; obtain ⟨hcz30_0, hcz30_1⟩ := zC2 BK106.out; obtain ⟨hfz30_0, hfz30_1⟩ := zF2 BK106.out))
               go_roundg k2
               case measure => have := HK1.out; have := HK2.out; omega
               case rel => exact ⟨(x4_2), (true), (wrap64 (x22_2 + 1)), ze, ze, H', ⟨zw HK1 HK2⟩, ⟨zR HO_4⟩, ⟨zc BK104⟩, ⟨zc BK106⟩, ⟨zb⟩⟩
             ·rw [if_neg c16] at H
              have c16b0 : decide (0 < x22_2) = false := decide_eq_false c16
              clear c16
              have H' := zh H
              clear H
              have p107 : 0 ≤ (x22_2 : Int) := of_decide_eq_true zs
              have q107 : x22_2 < (((rd_T61 l0_1 x15_1).f0).length : Int) := of_decide_eq_true zs
              obtain ⟨ad107, e107, hx107_0⟩ := Kd.at_int HR105_0.out x22_2 p107 q107
              cases e107
              replace hx107_0 := ve HB.out hx107_0
              replace p107 := eq_true p107
              replace q107 := eq_true q107
              have hnb31 := NB104_106.out
              have hnc31 := NB106_104.out
              obtain ⟨hcz32_0, hcz32_1, hcz32_2, hcz32_3, hcz32_4⟩ := zC5 BK104.out
              obtain ⟨hfz32_0, hfz32_1, hfz32_2, hfz32_3, hfz32_4⟩ := zF5 BK104.out
              go_wp2_with (first | (go_at_call 51; (with_reducible refine (tune_lies.calls (rd ((rd_T61 l0_1 x15_1).f0) x22_2) 0 (wrap64 ((l0_0.length : Int) - 1)) true _ A14.out).mono ?_); rintro e w' ⟨rfl, ⟨nd, rfl⟩⟩))
              go_roundg k2
              case measure => have := HK1.out; have := HK2.out; omega
              case rel => exact ⟨(x4_2), (true), (wrap64 (x22_2 + 1)), ze, ze, H', ⟨zw HK1 HK2⟩, ⟨zR HO_4⟩, ⟨zc BK104⟩, ⟨zc BK106⟩, ⟨zb⟩⟩
            ·replace c15 := Bool.eq_false_iff.mpr c15
             subst c15
             have H1 : (tune_joints.l1 k2 x4_2 false l0_1 (l0_1.length : Int) x15_1 ((rd_T61 l0_1 x15_1).f0) (((rd_T61 l0_1 x15_1).f0).length : Int) (wrap64 (x22_2 + 1)) l0_0 l0_1 l0_2 a0_3 a0_4 ((rd_T61 l0_1 x15_1).f0) ((rd_T61 l0_1 x15_1).f1)) = some (r1, r2) := by rw [if_neg (show ¬ (false = true) by decide)] at H; exact H
             clear H
             have H := H1
             clear H1
             have H' := zh H
             clear H
             have p107 : 0 ≤ (x22_2 : Int) := of_decide_eq_true zs
             have q107 : x22_2 < (((rd_T61 l0_1 x15_1).f0).length : Int) := of_decide_eq_true zs
             obtain ⟨ad107, e107, hx107_0⟩ := Kd.at_int HR105_0.out x22_2 p107 q107
             cases e107
             replace hx107_0 := ve HB.out hx107_0
             replace p107 := eq_true p107
             replace q107 := eq_true q107
             have hnb33 := NB104_106.out
             have hnc33 := NB106_104.out
             obtain ⟨hcz34_0, hcz34_1, hcz34_2, hcz34_3, hcz34_4⟩ := zC5 BK104.out
             obtain ⟨hfz34_0, hfz34_1, hfz34_2, hfz34_3, hfz34_4⟩ := zF5 BK104.out
             go_wp2_with (first | (go_at_call 51; (with_reducible refine (tune_lies.calls (rd ((rd_T61 l0_1 x15_1).f0) x22_2) 0 (wrap64 ((l0_0.length : Int) - 1)) false _ A14.out).mono ?_); rintro e w' ⟨rfl, ⟨nd, rfl⟩⟩))
             go_roundg k2
             case measure => have := HK1.out; have := HK2.out; omega
             case rel => exact ⟨(x4_2), (false), (wrap64 (x22_2 + 1)), ze, ze, H', ⟨zw HK1 HK2⟩, ⟨zR HO_4⟩, ⟨zc BK104⟩, ⟨zc BK106⟩, ⟨zb⟩⟩
           ·replace c13 := Bool.eq_false_iff.mpr c13
            subst c13
            have H1 : (tune_joints.l1 k2 x4_2 false l0_1 (l0_1.length : Int) x15_1 ((rd_T61 l0_1 x15_1).f0) (((rd_T61 l0_1 x15_1).f0).length : Int) (wrap64 (x22_2 + 1)) l0_0 l0_1 l0_2 a0_3 a0_4 ((rd_T61 l0_1 x15_1).f0) ((rd_T61 l0_1 x15_1).f1)) = some (r1, r2) := by rw [if_neg (show ¬ (false = true) by decide)] at H; exact H
            clear H
            have H := H1
            clear H1
            have H' := zh H
            clear H
            have p107 : 0 ≤ (x22_2 : Int) := of_decide_eq_true zs
            have q107 : x22_2 < (((rd_T61 l0_1 x15_1).f0).length : Int) := of_decide_eq_true zs
            obtain ⟨ad107, e107, hx107_0⟩ := Kd.at_int HR105_0.out x22_2 p107 q107
            cases e107
            replace hx107_0 := ve HB.out hx107_0
            replace p107 := eq_true p107
            replace q107 := eq_true q107
            go_wp2
            go_roundg k2
            case measure => have := HK1.out; have := HK2.out; omega
            case rel => exact ⟨(x4_2), (false), (wrap64 (x22_2 + 1)), ze, ze, H', ⟨zw HK1 HK2⟩, ⟨zR HO_4⟩, ⟨zc BK104⟩, ⟨zc BK106⟩, ⟨zb⟩⟩
          ·rw [if_neg c12] at H
           exact absurd H (by simp)
         ·rw [if_neg c11] at H
          exact absurd H (by simp)
        ·rw [if_neg c10] at H
         have c10b0 : decide (x22_2 < (((rd_T61 l0_1 x15_1).f0).length : Int)) = false := decide_eq_false c10
         clear c10
         have H' := zh H
         clear H
         go_wp2
         go_roundg k2
         case measure => have := HK1.out; have := HK2.out; omega
         case rel => exact ⟨(x4_2), (x5_2), (wrap64 (x15_1 + 1)), ze, ze, H', ⟨zw HK1 HK2⟩, ⟨zR HO_4⟩, ⟨zc BK104⟩, ⟨zb⟩⟩
     ·rw [if_neg c6] at H
      exact absurd H (by simp)
    ·rw [if_neg c5] at H
     exact absurd H (by simp)
   ·rw [if_neg c4] at H
    have c4b0 : decide (x15_1 < (l0_1.length : Int)) = false := decide_eq_false c4
    clear c4
    have H' := zh H
    clear H
    obtain ⟨hcz35_0, hcz35_1, hcz35_2, hcz35_3, hcz35_4⟩ := zC5 BK104.out
    obtain ⟨hfz35_0, hfz35_1, hfz35_2, hfz35_3, hfz35_4⟩ := zF5 BK104.out
    go_wp2
    go_loopg [4, 5, 70] k1 (fun kq v4 v5 v70 w' => ∃ (x4_2 : List (S80)) (x5_2 : Bool) (x70_2 : Int), v5 = .bool x5_2 ∧ v70 = .int .i64 x70_2 ∧ Aside0 (tune_joints.l2 kq x4_2 x5_2 l0_2 (l0_2.length : Int) x70_2 l0_0 l0_1 l0_2 a0_3 a0_4 = some (r1, r2)) ∧ Aside0 (kq ≤ k1) ∧ Aside0 (Kd.R k80 80 w' w.heap.size (fun _ => True) v4 x4_2) ∧ Aside0 (w'.heap[gb104]? = some (.cells #[(.slice A0_0 l0_0.length c0_0), (.slice A0_1 l0_1.length c0_1), (.slice A0_2 l0_2.length c0_2), .int .i64 a0_3, .int .i64 a0_4] 28 (0, 0))) ∧ Aside0 (Below w.heap.size w w'))
    case atStart => exact ⟨(x4_1), (x5_1), (0), ze, ze, H', ⟨Nat.le_refl _⟩, ⟨zR HO_4⟩, ⟨zc BK104⟩, ⟨zb⟩⟩
    case round =>
     clear H'
     try clear c1
     try clear p1
     try clear q1
     try clear hx1
     try clear c2
     try clear p2
     try clear c3
     try clear c4
     try clear c4b0
     try clear c5
     try clear c5b0
     try clear c6
     try clear c6b0
     try clear p6
     try clear c8
     try clear c10
     try clear c10b0
     try clear p10
     try clear q10
     try clear hx10
     try clear c11
     try clear c11b0
     try clear p11
     try clear q11
     try clear hx11
     try clear c12
     try clear c12b0
     try clear c13
     try clear c15
     try clear c16
     try clear c16b0
     try clear c17
     try clear c17b0
     try clear c19
     try clear c19b0
     try clear c20
     try clear c20b0
     try clear c21
     try clear c21b0
     try clear c22
     try clear c23
     try clear c28
     try clear c31
     try clear c33
     try clear hcz24_0
     try clear hcz24_1
     try clear hcz24_2
     try clear hcz24_3
     try clear hcz24_4
     try clear hcz25_0
     try clear hcz25_1
     try clear hcz29_0
     try clear hcz29_1
     try clear hcz29_2
     try clear hcz29_3
     try clear hcz29_4
     try clear hcz30_0
     try clear hcz30_1
     try clear hcz32_0
     try clear hcz32_1
     try clear hcz32_2
     try clear hcz32_3
     try clear hcz32_4
     try clear hcz34_0
     try clear hcz34_1
     try clear hcz34_2
     try clear hcz34_3
     try clear hcz34_4
     try clear hcz35_0
     try clear hcz35_1
     try clear hcz35_2
     try clear hcz35_3
     try clear hcz35_4
     try clear hcz3_0
     try clear hcz3_1
     try clear hcz3_2
     try clear hcz3_3
     try clear hcz3_4
     try clear hcz9_0
     try clear hcz9_1
     try clear hfz24_0
     try clear hfz24_1
     try clear hfz24_2
     try clear hfz24_3
     try clear hfz24_4
     try clear hfz25_0
     try clear hfz25_1
     try clear hfz29_0
     try clear hfz29_1
     try clear hfz29_2
     try clear hfz29_3
     try clear hfz29_4
     try clear hfz30_0
     try clear hfz30_1
     try clear hfz32_0
     try clear hfz32_1
     try clear hfz32_2
     try clear hfz32_3
     try clear hfz32_4
     try clear hfz34_0
     try clear hfz34_1
     try clear hfz34_2
     try clear hfz34_3
     try clear hfz34_4
     try clear hfz35_0
     try clear hfz35_1
     try clear hfz35_2
     try clear hfz35_3
     try clear hfz35_4
     try clear hfz3_0
     try clear hfz3_1
     try clear hfz3_2
     try clear hfz3_3
     try clear hfz3_4
     try clear hfz9_0
     try clear hfz9_1
     try clear hx105_0
     try clear hx105_1
     try clear hx107_0
     try clear hx109_0
     try clear hx110_0
     try clear hx110_1
     try clear p1
     try clear p105
     try clear p107
     try clear p109
     try clear p110
     try clear p2
     try clear q1
     try clear q105
     try clear q107
     try clear q109
     try clear q110
     obtain ⟨x4_2, x5_2, x70_2, rfl, rfl, HA, HK2, HO_4, BK104, HB⟩ := hrel
     cases gk with
     | zero => exact absurd HA.out (by simp [tune_joints.l2])
     | succ k2 =>
      have H := HA.out
      clear HA
      simp only [tune_joints.l2] at H
      by_cases c36 : x70_2 < (l0_2.length : Int)
      ·rw [if_pos c36] at H
       have c36b0 : decide (x70_2 < (l0_2.length : Int)) = true := decide_eq_true c36
       clear c36
       by_cases c37 : 0 ≤ x70_2
       ·rw [if_pos c37] at H
        have c37b0 : decide (0 ≤ x70_2) = true := decide_eq_true c37
        clear c37
        by_cases c38 : x70_2 < (l0_2.length : Int)
        ·rw [if_pos c38] at H
         have c38b0 : decide (x70_2 < (l0_2.length : Int)) = true := decide_eq_true c38
         clear c38
         by_cases c39 : x5_2 = true
         ·subst c39
          have H1 : ((tune_lies.f ((rd_T48 l0_2 x70_2).f0) 0 (wrap64 ((l0_0.length : Int) - 1))).bind fun t116 => (if t116 = true then ((tune_lies.f ((rd_T48 l0_2 x70_2).f1) 0 (wrap64 ((l0_0.length : Int) - 1))).bind fun t117 => (if t117 = true then (if x4_2.length < 3518437208883 then (tune_joints.l2 k2 (x4_2 ++ [(⟨(rd_T48 l0_2 x70_2).f0, (rd_T48 l0_2 x70_2).f1, 1, (⟨a0_3, a0_4⟩ : S26)⟩ : S80)]) t117 l0_2 (l0_2.length : Int) (wrap64 (x70_2 + 1)) l0_0 l0_1 l0_2 a0_3 a0_4) else (none)) else (tune_joints.l2 k2 x4_2 t117 l0_2 (l0_2.length : Int) (wrap64 (x70_2 + 1)) l0_0 l0_1 l0_2 a0_3 a0_4))) else (tune_joints.l2 k2 x4_2 false l0_2 (l0_2.length : Int) (wrap64 (x70_2 + 1)) l0_0 l0_1 l0_2 a0_3 a0_4))) = some (r1, r2) := by rw [if_pos rfl] at H; exact H
          clear H
          have H := H1
          clear H1
          replace H := Option.bind_eq_some_iff.mp H
          obtain ⟨t116, A400, H⟩ := H
          replace H : (if t116 = true then ((tune_lies.f ((rd_T48 l0_2 x70_2).f1) 0 (wrap64 ((l0_0.length : Int) - 1))).bind fun t117 => (if t117 = true then (if x4_2.length < 3518437208883 then (tune_joints.l2 k2 (x4_2 ++ [(⟨(rd_T48 l0_2 x70_2).f0, (rd_T48 l0_2 x70_2).f1, 1, (⟨a0_3, a0_4⟩ : S26)⟩ : S80)]) t117 l0_2 (l0_2.length : Int) (wrap64 (x70_2 + 1)) l0_0 l0_1 l0_2 a0_3 a0_4) else (none)) else (tune_joints.l2 k2 x4_2 t117 l0_2 (l0_2.length : Int) (wrap64 (x70_2 + 1)) l0_0 l0_1 l0_2 a0_3 a0_4))) else (tune_joints.l2 k2 x4_2 false l0_2 (l0_2.length : Int) (wrap64 (x70_2 + 1)) l0_0 l0_1 l0_2 a0_3 a0_4)) = some (r1, r2) := H
          have A40 := zh A400
          clear A400
          by_cases c41 : t116 = true
          ·subst c41
           have H1 : ((tune_lies.f ((rd_T48 l0_2 x70_2).f1) 0 (wrap64 ((l0_0.length : Int) - 1))).bind fun t117 => (if t117 = true then (if x4_2.length < 3518437208883 then (tune_joints.l2 k2 (x4_2 ++ [(⟨(rd_T48 l0_2 x70_2).f0, (rd_T48 l0_2 x70_2).f1, 1, (⟨a0_3, a0_4⟩ : S26)⟩ : S80)]) t117 l0_2 (l0_2.length : Int) (wrap64 (x70_2 + 1)) l0_0 l0_1 l0_2 a0_3 a0_4) else (none)) else (tune_joints.l2 k2 x4_2 t117 l0_2 (l0_2.length : Int) (wrap64 (x70_2 + 1)) l0_0 l0_1 l0_2 a0_3 a0_4))) = some (r1, r2) := by rw [if_pos rfl] at H; exact H
           clear H
           have H := H1
           clear H1
           replace H := Option.bind_eq_some_iff.mp H
           obtain ⟨t117, A420, H⟩ := H
           replace H : (if t117 = true then (if x4_2.length < 3518437208883 then (tune_joints.l2 k2 (x4_2 ++ [(⟨(rd_T48 l0_2 x70_2).f0, (rd_T48 l0_2 x70_2).f1, 1, (⟨a0_3, a0_4⟩ : S26)⟩ : S80)]) t117 l0_2 (l0_2.length : Int) (wrap64 (x70_2 + 1)) l0_0 l0_1 l0_2 a0_3 a0_4) else (none)) else (tune_joints.l2 k2 x4_2 t117 l0_2 (l0_2.length : Int) (wrap64 (x70_2 + 1)) l0_0 l0_1 l0_2 a0_3 a0_4)) = some (r1, r2) := H
           have A42 := zh A420
           clear A420
           by_cases c43 : t117 = true
           ·subst c43
            have H1 : (if x4_2.length < 3518437208883 then (tune_joints.l2 k2 (x4_2 ++ [(⟨(rd_T48 l0_2 x70_2).f0, (rd_T48 l0_2 x70_2).f1, 1, (⟨a0_3, a0_4⟩ : S26)⟩ : S80)]) true l0_2 (l0_2.length : Int) (wrap64 (x70_2 + 1)) l0_0 l0_1 l0_2 a0_3 a0_4) else (none)) = some (r1, r2) := by rw [if_pos rfl] at H; exact H
            clear H
            have H := H1
            clear H1
            by_cases c44 : x4_2.length < 3518437208883
            ·rw [if_pos c44] at H
             have LMc44 := zh c44
             clear c44
             obtain ⟨y118, hy118⟩ : ∃ y_ : List (S80), y_ = (x4_2 ++ [(⟨(rd_T48 l0_2 x70_2).f0, (rd_T48 l0_2 x70_2).f1, 1, (⟨a0_3, a0_4⟩ : S26)⟩ : S80)]) := ⟨_, rfl⟩
             replace H : (tune_joints.l2 k2 y118 true l0_2 (l0_2.length : Int) (wrap64 (x70_2 + 1)) l0_0 l0_1 l0_2 a0_3 a0_4) = some (r1, r2) := by first | (rw [hy118]; with_reducible exact H) | (have H2_ := (Option.bind_some _ _).symm.trans H; rw [hy118]; with_reducible exact H2_) | (have H2_ := (Option.bind_some _ _).symm.trans H; with_reducible exact H2_) | with_reducible exact H | (rw [hy118]; exact H) | exact H
             have Ny118 := zh hy118
             clear hy118
             have H' := zh H
             clear H
             have p114 : 0 ≤ (x70_2 : Int) := of_decide_eq_true zs
             have q114 : x70_2 < (l0_2.length : Int) := of_decide_eq_true zs
             obtain ⟨ad114, e114, hx114_0, hx114_1⟩ := at_T48 HR0_2.out x70_2 p114 q114
             cases e114
             replace hx114_0 := ve HB.out hx114_0
             replace hx114_1 := ve HB.out hx114_1
             replace p114 := eq_true p114
             replace q114 := eq_true q114
             go_wp2_with (first | ((with_reducible refine gate_dst (N := 11) rfl ?_); (try (refine gate_guard (by rfl) ?_; dsimp only)); refine box_event ?hg (N := 11) ?hd (cs := #[.int .i64 0, .int .i64 0]) (t := 48) ?hr ?_; (case hd => rfl); (case hg => rfl); (case hr => first | (go_simp; done) | (go_simp; rfl)); intro gb115 hg w45 hbox hb; replace HO_4 := zh (Kd.R_below (zR HO_4) hb); have BK115 := zh (hbox); have GW115 := zh ((by rw [hg]; exact (below_size zb) : w.heap.size ≤ gb115)); have GE115 := zh ((by rw [hg]; exact (below_size zb) : w.heap.size ≤ gb115)); replace HB := zh (below_step zb hb); have NB104_115 := zh ((by rw [hg]; exact Nat.ne_of_lt (blk_lt (g := gb104) (o := .cells #[.slice A0_0 l0_0.length c0_0, .slice A0_1 l0_1.length c0_1, .slice (some ad114) l0_2.length c0_2, .int .i64 a0_3, .int .i64 a0_4] 28 (0, 0)) (zc BK104)) : gb104 ≠ gb115)); have NB115_104 := zh ((by rw [hg]; exact Nat.ne_of_gt (blk_lt (g := gb104) (o := .cells #[.slice A0_0 l0_0.length c0_0, .slice A0_1 l0_1.length c0_1, .slice (some ad114) l0_2.length c0_2, .int .i64 a0_3, .int .i64 a0_4] 28 (0, 0)) (zc BK104)) : gb115 ≠ gb104)); replace BK104 := zX BK104 hb; clear hb hbox hg; have hnb46 := NB115_104.out; have hnc46 := NB104_115.out; obtain ⟨hcz47_0, hcz47_1⟩ := zC2 BK115.out; obtain ⟨hfz47_0, hfz47_1⟩ := zF2 BK115.out; obtain ⟨hcz48_0, hcz48_1, hcz48_2, hcz48_3, hcz48_4⟩ := zC5 BK104.out; obtain ⟨hfz48_0, hfz48_1, hfz48_2, hfz48_3, hfz48_4⟩ := zF5 BK104.out) | (go_at_call 51; (with_reducible refine (tune_lies.calls ((rd_T48 l0_2 x70_2).f0) 0 (wrap64 ((l0_0.length : Int) - 1)) true _ A40.out).mono ?_); rintro e w' ⟨rfl, ⟨nd, rfl⟩⟩) | (go_at_call 51; (with_reducible refine (tune_lies.calls ((rd_T48 l0_2 x70_2).f1) 0 (wrap64 ((l0_0.length : Int) - 1)) true _ A42.out).mono ?_); rintro e w' ⟨rfl, ⟨nd, rfl⟩⟩) | ((with_reducible refine gate_builtin (b := .append) (xs := #[.tmp 94, .tmp 102]) rfl ?_); (try (refine gate_guard (by rfl) ?_; dsimp only)); at_builtin; refine Kd.R_append k80 (w0 := w) w.heap.size rfl (.tmp 94) (.tmp 102) 73 80 (.agg #[(.int .i64 0), (.int .i64 0), (.int .i64 0), (.int .i64 0), (.int .i64 0)]) 40 rfl Tryd.underlying73 info80 rfl (by decide) (by omega) u4 x4_2 (⟨(rd_T48 l0_2 x70_2).f0, (rd_T48 l0_2 x70_2).f1, 1, (⟨a0_3, a0_4⟩ : S26)⟩ : S80) [.int .i64 ((rd_T48 l0_2 x70_2).f0), .int .i64 ((rd_T48 l0_2 x70_2).f1), .int .i64 1, .int .i64 a0_3, .int .i64 a0_4] (fun _ => True) (fun _ => False) rfl (by first | (go_simp; done) | (go_simp; rfl)) ?aP (fun _ hk => hk.elim) ?aF ?aO ?aB ?aS ?aL ?_; (case aP => exact k80_mkM _ _ _ (⟨(rd_T48 l0_2 x70_2).f0, (rd_T48 l0_2 x70_2).f1, 1, (⟨a0_3, a0_4⟩ : S26)⟩ : S80)); (case aB => exact zb); (case aF => exact (fun _ _ => trivial)); (case aO => exact (by (with_reducible repeat (first | apply Kd.R_alloc | apply Kd.R_drewN | apply Kd.R_drew)); exact Kd.R_mono (Kd.R_far (p := ⟨gb115, 1, none⟩) (Kd.R_far (p := ⟨gb115, 0, none⟩) (Kd.R_types HO_4.out BK115.out (by decide)) (fun _ hk => hk.2) (.int .i64 ((rd_T48 l0_2 x70_2).f0))) (fun _ hk => hk.2) (.int .i64 ((rd_T48 l0_2 x70_2).f1))) (fun _ hk => trivial))); (case aS => exact (below_size zb)); (case aL => have := LMc44.out; omega); intro v119 w49 ho hb hg hat; rw [← Ny118.out] at ho; replace BK104 := zh (blk_grown (g := gb104) (o := .cells #[.slice A0_0 l0_0.length c0_0, .slice A0_1 l0_1.length c0_1, .slice (some ad114) l0_2.length c0_2, .int .i64 a0_3, .int .i64 a0_4] 28 (0, 0)) (by (with_reducible repeat (first | refine blk_drewN ?_ _ | refine blk_drew ?_ | refine blk_alloc ?_ _)); refine blk_far ?_ NB104_115.out _; (with_reducible repeat (first | refine blk_drewN ?_ _ | refine blk_drew ?_ | refine blk_alloc ?_ _)); refine blk_far ?_ NB104_115.out _; (with_reducible repeat (first | refine blk_drewN ?_ _ | refine blk_drew ?_ | refine blk_alloc ?_ _)); exact BK104.out) hg (Kd.R_ne HO_4.out BK104.out (by decide))); replace BK115 := zh (blk_grown (g := gb115) (o := .cells #[.int .i64 ((rd_T48 l0_2 x70_2).f0), .int .i64 ((rd_T48 l0_2 x70_2).f1)] 48 (0, 0)) (by (with_reducible repeat (first | refine blk_drewN ?_ _ | refine blk_drew ?_ | refine blk_alloc ?_ _)); refine blk_put (cs := #[.int .i64 ((rd_T48 l0_2 x70_2).f0), .int .i64 0]) ?_ 1 _ rfl; (with_reducible repeat (first | refine blk_drewN ?_ _ | refine blk_drew ?_ | refine blk_alloc ?_ _)); refine blk_put (cs := #[.int .i64 0, .int .i64 0]) ?_ 0 _ rfl; (with_reducible repeat (first | refine blk_drewN ?_ _ | refine blk_drew ?_ | refine blk_alloc ?_ _)); exact BK115.out) hg (Kd.R_ne HO_4.out BK115.out (by decide))); replace HB := zh (hb); have HO120 := zh (ho); clear HO_4; clear ho hb hg hat))
             go_roundg k2
             case measure => have := HK1.out; have := HK2.out; omega
             case rel => exact ⟨(y118), (true), (wrap64 (x70_2 + 1)), ze, ze, H', ⟨zw HK1 HK2⟩, ⟨zR HO120⟩, ⟨zc BK104⟩, ⟨zb⟩⟩
            ·rw [if_neg c44] at H
             exact absurd H (by simp)
           ·replace c43 := Bool.eq_false_iff.mpr c43
            subst c43
            have H1 : (tune_joints.l2 k2 x4_2 false l0_2 (l0_2.length : Int) (wrap64 (x70_2 + 1)) l0_0 l0_1 l0_2 a0_3 a0_4) = some (r1, r2) := by rw [if_neg (show ¬ (false = true) by decide)] at H; exact H
            clear H
            have H := H1
            clear H1
            have H' := zh H
            clear H
            have p114 : 0 ≤ (x70_2 : Int) := of_decide_eq_true zs
            have q114 : x70_2 < (l0_2.length : Int) := of_decide_eq_true zs
            obtain ⟨ad114, e114, hx114_0, hx114_1⟩ := at_T48 HR0_2.out x70_2 p114 q114
            cases e114
            replace hx114_0 := ve HB.out hx114_0
            replace hx114_1 := ve HB.out hx114_1
            replace p114 := eq_true p114
            replace q114 := eq_true q114
            go_wp2_with (first | ((with_reducible refine gate_dst (N := 11) rfl ?_); (try (refine gate_guard (by rfl) ?_; dsimp only)); refine box_event ?hg (N := 11) ?hd (cs := #[.int .i64 0, .int .i64 0]) (t := 48) ?hr ?_; (case hd => rfl); (case hg => rfl); (case hr => first | (go_simp; done) | (go_simp; rfl)); intro gb115 hg w50 hbox hb; replace HO_4 := zh (Kd.R_below (zR HO_4) hb); have BK115 := zh (hbox); have GW115 := zh ((by rw [hg]; exact (below_size zb) : w.heap.size ≤ gb115)); have GE115 := zh ((by rw [hg]; exact (below_size zb) : w.heap.size ≤ gb115)); replace HB := zh (below_step zb hb); have NB104_115 := zh ((by rw [hg]; exact Nat.ne_of_lt (blk_lt (g := gb104) (o := .cells #[.slice A0_0 l0_0.length c0_0, .slice A0_1 l0_1.length c0_1, .slice (some ad114) l0_2.length c0_2, .int .i64 a0_3, .int .i64 a0_4] 28 (0, 0)) (zc BK104)) : gb104 ≠ gb115)); have NB115_104 := zh ((by rw [hg]; exact Nat.ne_of_gt (blk_lt (g := gb104) (o := .cells #[.slice A0_0 l0_0.length c0_0, .slice A0_1 l0_1.length c0_1, .slice (some ad114) l0_2.length c0_2, .int .i64 a0_3, .int .i64 a0_4] 28 (0, 0)) (zc BK104)) : gb115 ≠ gb104)); replace BK104 := zX BK104 hb; clear hb hbox hg; have hnb51 := NB115_104.out; have hnc51 := NB104_115.out; obtain ⟨hcz52_0, hcz52_1⟩ := zC2 BK115.out; obtain ⟨hfz52_0, hfz52_1⟩ := zF2 BK115.out; obtain ⟨hcz53_0, hcz53_1, hcz53_2, hcz53_3, hcz53_4⟩ := zC5 BK104.out; obtain ⟨hfz53_0, hfz53_1, hfz53_2, hfz53_3, hfz53_4⟩ := zF5 BK104.out) | (go_at_call 51; (with_reducible refine (tune_lies.calls ((rd_T48 l0_2 x70_2).f0) 0 (wrap64 ((l0_0.length : Int) - 1)) true _ A40.out).mono ?_); rintro e w' ⟨rfl, ⟨nd, rfl⟩⟩) | (go_at_call 51; (with_reducible refine (tune_lies.calls ((rd_T48 l0_2 x70_2).f1) 0 (wrap64 ((l0_0.length : Int) - 1)) false _ A42.out).mono ?_); rintro e w' ⟨rfl, ⟨nd, rfl⟩⟩))
            go_roundg k2
            case measure => have := HK1.out; have := HK2.out; omega
            case rel => exact ⟨(x4_2), (false), (wrap64 (x70_2 + 1)), ze, ze, H', ⟨zw HK1 HK2⟩, ⟨by (with_reducible repeat (first | apply Kd.R_alloc | apply Kd.R_drewN | apply Kd.R_drew)); exact Kd.R_mono (Kd.R_far (p := ⟨gb115, 1, none⟩) (Kd.R_far (p := ⟨gb115, 0, none⟩) (Kd.R_types HO_4.out BK115.out (by decide)) (fun _ hk => hk.2) (.int .i64 ((rd_T48 l0_2 x70_2).f0))) (fun _ hk => hk.2) (.int .i64 ((rd_T48 l0_2 x70_2).f1))) (fun _ hk => trivial)⟩, ⟨by (with_reducible repeat (first | refine blk_drewN ?_ _ | refine blk_drew ?_ | refine blk_alloc ?_ _)); refine blk_far ?_ NB104_115.out _; (with_reducible repeat (first | refine blk_drewN ?_ _ | refine blk_drew ?_ | refine blk_alloc ?_ _)); refine blk_far ?_ NB104_115.out _; (with_reducible repeat (first | refine blk_drewN ?_ _ | refine blk_drew ?_ | refine blk_alloc ?_ _)); exact BK104.out⟩, ⟨zb⟩⟩
          ·replace c41 := Bool.eq_false_iff.mpr c41
           subst c41
           have H1 : (tune_joints.l2 k2 x4_2 false l0_2 (l0_2.length : Int) (wrap64 (x70_2 + 1)) l0_0 l0_1 l0_2 a0_3 a0_4) = some (r1, r2) := by rw [if_neg (show ¬ (false = true) by decide)] at H; exact H
           clear H
           have H := H1
           clear H1
           have H' := zh H
           clear H
           have p114 : 0 ≤ (x70_2 : Int) := of_decide_eq_true zs
           have q114 : x70_2 < (l0_2.length : Int) := of_decide_eq_true zs
           obtain ⟨ad114, e114, hx114_0, hx114_1⟩ := at_T48 HR0_2.out x70_2 p114 q114
           cases e114
           replace hx114_0 := ve HB.out hx114_0
           replace hx114_1 := ve HB.out hx114_1
           replace p114 := eq_true p114
           replace q114 := eq_true q114
           go_wp2_with (first | ((with_reducible refine gate_dst (N := 11) rfl ?_); (try (refine gate_guard (by rfl) ?_; dsimp only)); refine box_event ?hg (N := 11) ?hd (cs := #[.int .i64 0, .int .i64 0]) (t := 48) ?hr ?_; (case hd => rfl); (case hg => rfl); (case hr => first | (go_simp; done) | (go_simp; rfl)); intro gb115 hg w54 hbox hb; replace HO_4 := zh (Kd.R_below (zR HO_4) hb); have BK115 := zh (hbox); have GW115 := zh ((by rw [hg]; exact (below_size zb) : w.heap.size ≤ gb115)); have GE115 := zh ((by rw [hg]; exact (below_size zb) : w.heap.size ≤ gb115)); replace HB := zh (below_step zb hb); have NB104_115 := zh ((by rw [hg]; exact Nat.ne_of_lt (blk_lt (g := gb104) (o := .cells #[.slice A0_0 l0_0.length c0_0, .slice A0_1 l0_1.length c0_1, .slice (some ad114) l0_2.length c0_2, .int .i64 a0_3, .int .i64 a0_4] 28 (0, 0)) (zc BK104)) : gb104 ≠ gb115)); have NB115_104 := zh ((by rw [hg]; exact Nat.ne_of_gt (blk_lt (g := gb104) (o := .cells #[.slice A0_0 l0_0.length c0_0, .slice A0_1 l0_1.length c0_1, .slice (some ad114) l0_2.length c0_2, .int .i64 a0_3, .int .i64 a0_4] 28 (0, 0)) (zc BK104)) : gb115 ≠ gb104)); replace BK104 := zX BK104 hb; clear hb hbox hg; have hnb55 := NB115_104.out; have hnc55 := NB104_115.out; obtain ⟨hcz56_0, hcz56_1⟩ := zC2 BK115.out; obtain ⟨hfz56_0, hfz56_1⟩ := zF2 BK115.out; obtain ⟨hcz57_0, hcz57_1, hcz57_2, hcz57_3, hcz57_4⟩ := zC5 BK104.out; obtain ⟨hfz57_0, hfz57_1, hfz57_2, hfz57_3, hfz57_4⟩ := zF5 BK104.out) | (go_at_call 51; (with_reducible refine (tune_lies.calls ((rd_T48 l0_2 x70_2).f0) 0 (wrap64 ((l0_0.length : Int) - 1)) false _ A40.out).mono ?_); rintro e w' ⟨rfl, ⟨nd, rfl⟩⟩))
           go_roundg k2
           case measure => have := HK1.out; have := HK2.out; omega
           case rel => exact ⟨(x4_2), (false), (wrap64 (x70_2 + 1)), ze, ze, H', ⟨zw HK1 HK2⟩, ⟨by (with_reducible repeat (first | apply Kd.R_alloc | apply Kd.R_drewN | apply Kd.R_drew)); exact Kd.R_mono (Kd.R_far (p := ⟨gb115, 1, none⟩) (Kd.R_far (p := ⟨gb115, 0, none⟩) (Kd.R_types HO_4.out BK115.out (by decide)) (fun _ hk => hk.2) (.int .i64 ((rd_T48 l0_2 x70_2).f0))) (fun _ hk => hk.2) (.int .i64 ((rd_T48 l0_2 x70_2).f1))) (fun _ hk => trivial)⟩, ⟨by (with_reducible repeat (first | refine blk_drewN ?_ _ | refine blk_drew ?_ | refine blk_alloc ?_ _)); refine blk_far ?_ NB104_115.out _; (with_reducible repeat (first | refine blk_drewN ?_ _ | refine blk_drew ?_ | refine blk_alloc ?_ _)); refine blk_far ?_ NB104_115.out _; (with_reducible repeat (first | refine blk_drewN ?_ _ | refine blk_drew ?_ | refine blk_alloc ?_ _)); exact BK104.out⟩, ⟨zb⟩⟩
         ·replace c39 := Bool.eq_false_iff.mpr c39
          subst c39
          have H1 : (tune_joints.l2 k2 x4_2 false l0_2 (l0_2.length : Int) (wrap64 (x70_2 + 1)) l0_0 l0_1 l0_2 a0_3 a0_4) = some (r1, r2) := by rw [if_neg (show ¬ (false = true) by decide)] at H; exact H
          clear H
          have H := H1
          clear H1
          have H' := zh H
          clear H
          have p114 : 0 ≤ (x70_2 : Int) := of_decide_eq_true zs
          have q114 : x70_2 < (l0_2.length : Int) := of_decide_eq_true zs
          obtain ⟨ad114, e114, hx114_0, hx114_1⟩ := at_T48 HR0_2.out x70_2 p114 q114
          cases e114
          replace hx114_0 := ve HB.out hx114_0
          replace hx114_1 := ve HB.out hx114_1
          replace p114 := eq_true p114
          replace q114 := eq_true q114
          go_wp2_with (first | ((with_reducible refine gate_dst (N := 11) rfl ?_); (try (refine gate_guard (by rfl) ?_; dsimp only)); refine box_event ?hg (N := 11) ?hd (cs := #[.int .i64 0, .int .i64 0]) (t := 48) ?hr ?_; (case hd => rfl); (case hg => rfl); (case hr => first | (go_simp; done) | (go_simp; rfl)); intro gb115 hg w58 hbox hb; replace HO_4 := zh (Kd.R_below (zR HO_4) hb); have BK115 := zh (hbox); have GW115 := zh ((by rw [hg]; exact (below_size zb) : w.heap.size ≤ gb115)); have GE115 := zh ((by rw [hg]; exact (below_size zb) : w.heap.size ≤ gb115)); replace HB := zh (below_step zb hb); have NB104_115 := zh ((by rw [hg]; exact Nat.ne_of_lt (blk_lt (g := gb104) (o := .cells #[.slice A0_0 l0_0.length c0_0, .slice A0_1 l0_1.length c0_1, .slice (some ad114) l0_2.length c0_2, .int .i64 a0_3, .int .i64 a0_4] 28 (0, 0)) (zc BK104)) : gb104 ≠ gb115)); have NB115_104 := zh ((by rw [hg]; exact Nat.ne_of_gt (blk_lt (g := gb104) (o := .cells #[.slice A0_0 l0_0.length c0_0, .slice A0_1 l0_1.length c0_1, .slice (some ad114) l0_2.length c0_2, .int .i64 a0_3, .int .i64 a0_4] 28 (0, 0)) (zc BK104)) : gb115 ≠ gb104)); replace BK104 := zX BK104 hb; clear hb hbox hg; have hnb59 := NB115_104.out; have hnc59 := NB104_115.out; obtain ⟨hcz60_0, hcz60_1⟩ := zC2 BK115.out; obtain ⟨hfz60_0, hfz60_1⟩ := zF2 BK115.out))
          go_roundg k2
          case measure => have := HK1.out; have := HK2.out; omega
          case rel => exact ⟨(x4_2), (false), (wrap64 (x70_2 + 1)), ze, ze, H', ⟨zw HK1 HK2⟩, ⟨by (with_reducible repeat (first | apply Kd.R_alloc | apply Kd.R_drewN | apply Kd.R_drew)); exact Kd.R_mono (Kd.R_far (p := ⟨gb115, 1, none⟩) (Kd.R_far (p := ⟨gb115, 0, none⟩) (Kd.R_types HO_4.out BK115.out (by decide)) (fun _ hk => hk.2) (.int .i64 ((rd_T48 l0_2 x70_2).f0))) (fun _ hk => hk.2) (.int .i64 ((rd_T48 l0_2 x70_2).f1))) (fun _ hk => trivial)⟩, ⟨by (with_reducible repeat (first | refine blk_drewN ?_ _ | refine blk_drew ?_ | refine blk_alloc ?_ _)); refine blk_far ?_ NB104_115.out _; (with_reducible repeat (first | refine blk_drewN ?_ _ | refine blk_drew ?_ | refine blk_alloc ?_ _)); refine blk_far ?_ NB104_115.out _; (with_reducible repeat (first | refine blk_drewN ?_ _ | refine blk_drew ?_ | refine blk_alloc ?_ _)); exact BK104.out⟩, ⟨zb⟩⟩
        ·rw [if_neg c38] at H
         exact absurd H (by simp)
       ·rw [if_neg c37] at H
        exact absurd H (by simp)
      ·rw [if_neg c36] at H
       have c36b0 : decide (x70_2 < (l0_2.length : Int)) = false := decide_eq_false c36
       clear c36
       simp only [Option.some.injEq, Prod.mk.injEq] at H
       obtain ⟨rfl, rfl⟩ := H
       go_wp2
       go_ret2
       exact ⟨_, zf, (zR HO_4), zb⟩
end Go.Proofs.YtgehkojccmkggaaDoor.H
end
section
namespace Go.Proofs.YtgehkojccmkggaaDoor.K
open Go.RowKit Go.Shelf Go.Proofs.YtgehkojccmkggaaDoorW.PrintWords Go.Proofs.YtgehkojccmkggaaDoorW.PrintLast Go.Proofs.YtgehkojccmkggaaDoorW.PrintMore Go.Proofs.YtgehkojccmkggaaDoor.H Tune
set_option linter.unusedVariables false
set_option linter.unusedSimpArgs false
attribute [local go_sem] Oper.semAt_some
def Glob (w : World) : Prop := 0 < w.heap.size ∧ w.cell? ⟨0, 0, none⟩ = some (.func (.func 105) #[] #[]) ∧ w.cell? ⟨0, 1, none⟩ = some (.func (.func 106) #[] #[])
theorem Glob.below {w w' : World} (h : Glob w) (hb : Below w.heap.size w w') : Glob w' :=
 ⟨Nat.lt_of_lt_of_le h.1 hb.size, (hb.cell (p := ⟨0, 0, none⟩) h.1).trans h.2.1, (hb.cell (p := ⟨0, 1, none⟩) h.1).trans h.2.2⟩
def kindV (j : J) : Int := if j.step then 0 else 1
def ofJ (j : J) : S80 := ⟨(j.one : Int), (j.two : Int), kindV j, j.lo, j.hi⟩
theorem kindV_step {j : J} (h : j.step = true) : kindV j = 0 := by unfold kindV; rw [h]; rfl
theorem kindV_pair {j : J} (h : j.step = false) : kindV j = 1 := by unfold kindV; rw [h]; rfl
def OkJ (j : J) : Prop := 0 ≤ j.lo ∧ j.lo ≤ 5000 ∧ 0 ≤ j.hi ∧ j.hi ≤ 5000
theorem lies_f (n a b : Int) : tune_lies.f n a b = some (decide (a ≤ n) && decide (n ≤ b)) := by
 unfold tune_lies.f
 by_cases h : a ≤ n
 ·rw [if_pos h, decide_eq_true h]; rfl
 ·rw [if_neg h, decide_eq_false h]; rfl
set_option maxRecDepth 100000 in
set_option maxHeartbeats 2000000 in
theorem step_calls (vH vS vP vA : Value) (b0 b1 : Int) (lf : Nat → Bool) (e0 e1 : Int) (j : J) (p q : Int) (w : World) (hj : OkJ j) (hs : j.step = true) (hp : 0 ≤ p) (hp' : p ≤ 4000) (hq : 0 ≤ q) (hq' : q ≤ 4000) :
  Calls Tryd.prog 105 #[.agg #[vH, vS, vP, .int .i64 b0, .int .i64 b1, vA, .bool (lf 0), .bool (lf 1), .bool (lf 2), .bool (lf 3), .bool (lf 4), .bool (lf 5), .bool (lf 6), .bool (lf 7), .int .i64 e0, .int .i64 e1], .agg #[.int .i64 (j.one : Int), .int .i64 (j.two : Int), .int .i64 (kindV j), .int .i64 j.lo, .int .i64 j.hi], .int .i64 p, .int .i64 q] w fun e w' => e = .returned (.bool (fitB (e0, e1) j p q)) ∧ Below w.heap.size w w' := by
 obtain ⟨h1, h2, h3, h4⟩ := hj
 have hu80 := Tryd.underlying80
 have hu77 := Tryd.underlying77
 have hu26 := Tryd.underlying26
 have m1 : 0 ≤ j.lo * p := Int.mul_nonneg h1 hp
 have m2 : j.lo * p ≤ 5000 * 4000 := Int.mul_le_mul h2 hp' hp (by omega)
 have m3 : 0 ≤ j.hi * p := Int.mul_nonneg h3 hp
 have m4 : j.hi * p ≤ 5000 * 4000 := Int.mul_le_mul h4 hp' hp (by omega)
 have HF : Aside0 (fitB (e0, e1) j p q = (decide (j.lo * p ≤ 1000 * q) && decide (1000 * q ≤ j.hi * p))) := ⟨by unfold fitB; rw [hs]; rfl⟩
 generalize kindV j = kv
 clear hs
 by_cases h : j.lo * p ≤ 1000 * q
 ·have hd : decide (j.lo * p ≤ 1000 * q) = true := decide_eq_true h
  have HD := zh hd
  go_enter Tryd.func105, Tryd.ntmps105
  go_wp2
  go_ret
  exact ⟨by rw [HF.out, HD.out]; rfl, by repeat (first | exact Below.refl _ _ | apply below_alloc)⟩
 ·have hd : decide (j.lo * p ≤ 1000 * q) = false := decide_eq_false h
  have HD := zh hd
  go_enter Tryd.func105, Tryd.ntmps105
  go_wp2
  go_ret
  exact ⟨by rw [HF.out, HD.out]; rfl, by repeat (first | exact Below.refl _ _ | apply below_alloc)⟩
set_option maxRecDepth 100000 in
set_option maxHeartbeats 2000000 in
theorem pair_calls (vH vS vP vA : Value) (b0 b1 : Int) (lf : Nat → Bool) (e0 e1 : Int) (j : J) (p q : Int) (w : World) (hs : j.step = false) (hp : 0 ≤ p) (hp' : p ≤ 4000) (hq : 0 ≤ q) (hq' : q ≤ 4000) :
  Calls Tryd.prog 106 #[.agg #[vH, vS, vP, .int .i64 b0, .int .i64 b1, vA, .bool (lf 0), .bool (lf 1), .bool (lf 2), .bool (lf 3), .bool (lf 4), .bool (lf 5), .bool (lf 6), .bool (lf 7), .int .i64 e0, .int .i64 e1], .agg #[.int .i64 (j.one : Int), .int .i64 (j.two : Int), .int .i64 (kindV j), .int .i64 j.lo, .int .i64 j.hi], .int .i64 p, .int .i64 q] w fun e w' => e = .returned (.bool (fitB (e0, e1) j p q)) ∧ Below w.heap.size w w' := by
 have hu80 := Tryd.underlying80
 have hu77 := Tryd.underlying77
 have hu26 := Tryd.underlying26
 have HF : Aside0 (fitB (e0, e1) j p q = (decide (e0 ≤ q - p) && decide (q - p ≤ e1))) := ⟨by unfold fitB; rw [hs]; rfl⟩
 generalize kindV j = kv
 clear hs
 go_enter Tryd.func106, Tryd.ntmps106
 go_wp2_with (go_at_call 51; (with_reducible refine (tune_lies.calls (q - p) e0 e1 _ _ (lies_f _ _ _)).mono ?_); rintro e w' ⟨rfl, hd⟩; have HB := zh (drawn_below hd); clear hd)
 go_ret
 exact ⟨by rw [HF.out]; rfl, below_step (by repeat (first | exact Below.refl _ _ | apply below_alloc)) HB.out⟩
end Go.Proofs.YtgehkojccmkggaaDoor.K
end
section
namespace Go.Proofs.YtgehkojccmkggaaDoor.K
open Go.RowKit Go.Shelf Go.Proofs.YtgehkojccmkggaaDoorW.PrintWords Go.Proofs.YtgehkojccmkggaaDoorW.PrintLast Go.Proofs.YtgehkojccmkggaaDoorW.PrintMore Go.Proofs.YtgehkojccmkggaaDoor.H Tune
set_option linter.unusedVariables false
set_option linter.unusedSimpArgs false
attribute [local go_sem] Oper.semAt_some
set_option maxRecDepth 100000 in
set_option maxHeartbeats 4000000 in
theorem fits_calls (vH vS vP vA : Value) (b0 b1 : Int) (lf : Nat → Bool) (e0 e1 : Int) (j : J) (p q : Int) (w : World) (hG : Glob w) (hj : OkJ j) (hp : 0 ≤ p) (hp' : p ≤ 4000) (hq : 0 ≤ q) (hq' : q ≤ 4000) :
  Calls Tryd.prog 53 #[.agg #[vH, vS, vP, .int .i64 b0, .int .i64 b1, vA, .bool (lf 0), .bool (lf 1), .bool (lf 2), .bool (lf 3), .bool (lf 4), .bool (lf 5), .bool (lf 6), .bool (lf 7), .int .i64 e0, .int .i64 e1], .agg #[.int .i64 (j.one : Int), .int .i64 (j.two : Int), .int .i64 (kindV j), .int .i64 j.lo, .int .i64 j.hi], .int .i64 p, .int .i64 q] w fun e w' => e = .returned (.bool (fitB (e0, e1) j p q)) ∧ Below w.heap.size w w' := by
 have hu80 := Tryd.underlying80
 have hu77 := Tryd.underlying77
 have hu26 := Tryd.underlying26
 have hu107 := Tryd.underlying107
 have HG := zh hG
 have HJ := zh hj
 clear hG hj
 obtain ⟨kv, hkv⟩ : ∃ kv, kindV j = kv := ⟨_, rfl⟩
 have HKV := zh hkv
 rw [hkv]
 cases hs : j.step
 ·obtain rfl : kv = 1 := hkv.symm.trans (kindV_pair hs)
  have HS := zh hs
  clear hkv hs
  go_enter Tryd.func53, Tryd.ntmps53
  go_wp2
  have hB : Below w.heap.size w ((w.alloc (.cells #[vH, vS, vP, .int .i64 b0, .int .i64 b1, vA, .bool (lf 0), .bool (lf 1), .bool (lf 2), .bool (lf 3), .bool (lf 4), .bool (lf 5), .bool (lf 6), .bool (lf 7), .int .i64 e0, .int .i64 e1] 77)).alloc (.cells #[.int .i64 (j.one : Int), .int .i64 (j.two : Int), .int .i64 1, .int .i64 j.lo, .int .i64 j.hi] 80)) := by repeat (first | exact Below.refl _ _ | apply below_alloc)
  have c1 : ((w.alloc (.cells #[vH, vS, vP, .int .i64 b0, .int .i64 b1, vA, .bool (lf 0), .bool (lf 1), .bool (lf 2), .bool (lf 3), .bool (lf 4), .bool (lf 5), .bool (lf 6), .bool (lf 7), .int .i64 e0, .int .i64 e1] 77)).alloc (.cells #[.int .i64 (j.one : Int), .int .i64 (j.two : Int), .int .i64 1, .int .i64 j.lo, .int .i64 j.hi] 80)).heap[w.heap.size]? = some (.cells #[vH, vS, vP, .int .i64 b0, .int .i64 b1, vA, .bool (lf 0), .bool (lf 1), .bool (lf 2), .bool (lf 3), .bool (lf 4), .bool (lf 5), .bool (lf 6), .bool (lf 7), .int .i64 e0, .int .i64 e1] 77 (0, 0)) := blk_alloc (heap_alloc_new w _) _
  have c2 : ((w.alloc (.cells #[vH, vS, vP, .int .i64 b0, .int .i64 b1, vA, .bool (lf 0), .bool (lf 1), .bool (lf 2), .bool (lf 3), .bool (lf 4), .bool (lf 5), .bool (lf 6), .bool (lf 7), .int .i64 e0, .int .i64 e1] 77)).alloc (.cells #[.int .i64 (j.one : Int), .int .i64 (j.two : Int), .int .i64 1, .int .i64 j.lo, .int .i64 j.hi] 80)).heap[w.heap.size + 1]? = some (.cells #[.int .i64 (j.one : Int), .int .i64 (j.two : Int), .int .i64 1, .int .i64 j.lo, .int .i64 j.hi] 80 (0, 0)) := alloc_at _ _ _ (by simp)
  generalize ((w.alloc (.cells #[vH, vS, vP, .int .i64 b0, .int .i64 b1, vA, .bool (lf 0), .bool (lf 1), .bool (lf 2), .bool (lf 3), .bool (lf 4), .bool (lf 5), .bool (lf 6), .bool (lf 7), .int .i64 e0, .int .i64 e1] 77)).alloc (.cells #[.int .i64 (j.one : Int), .int .i64 (j.two : Int), .int .i64 1, .int .i64 j.lo, .int .i64 j.hi] 80)) = W at hB c1 c2 ⊢
  refine wp_region_still_tail 8 zk zk ?_
  simp only [List.take_succ_cons, List.take_zero, List.drop_succ_cons, List.drop_zero]
  replace hB : Below w.heap.size w W.drew := below_drew1 hB
  replace c1 : W.drew.heap[w.heap.size]? = some (.cells #[vH, vS, vP, .int .i64 b0, .int .i64 b1, vA, .bool (lf 0), .bool (lf 1), .bool (lf 2), .bool (lf 3), .bool (lf 4), .bool (lf 5), .bool (lf 6), .bool (lf 7), .int .i64 e0, .int .i64 e1] 77 (0, 0)) := c1
  replace c2 : W.drew.heap[w.heap.size + 1]? = some (.cells #[.int .i64 (j.one : Int), .int .i64 (j.two : Int), .int .i64 1, .int .i64 j.lo, .int .i64 j.hi] 80 (0, 0)) := c2
  change wpStill Tryd.prog _ W.drew _ _ _
  obtain ⟨W2, hW2⟩ : ∃ W2, W.drew = W2 := ⟨_, rfl⟩
  rw [hW2] at hB c1 c2 ⊢
  have HW2 := zh hW2
  clear hW2
  have d0 : W2.cell? ⟨w.heap.size, 0, none⟩ = some (vH) := (blk_cell c1 0).trans rfl
  have d1 : W2.cell? ⟨w.heap.size, 1, none⟩ = some (vS) := (blk_cell c1 1).trans rfl
  have d2 : W2.cell? ⟨w.heap.size, 2, none⟩ = some (vP) := (blk_cell c1 2).trans rfl
  have d3 : W2.cell? ⟨w.heap.size, 3, none⟩ = some (.int .i64 b0) := (blk_cell c1 3).trans rfl
  have d4 : W2.cell? ⟨w.heap.size, 4, none⟩ = some (.int .i64 b1) := (blk_cell c1 4).trans rfl
  have d5 : W2.cell? ⟨w.heap.size, 5, none⟩ = some (vA) := (blk_cell c1 5).trans rfl
  have d6 : W2.cell? ⟨w.heap.size, 6, none⟩ = some (.bool (lf 0)) := (blk_cell c1 6).trans rfl
  have d7 : W2.cell? ⟨w.heap.size, 7, none⟩ = some (.bool (lf 1)) := (blk_cell c1 7).trans rfl
  have d8 : W2.cell? ⟨w.heap.size, 8, none⟩ = some (.bool (lf 2)) := (blk_cell c1 8).trans rfl
  have d9 : W2.cell? ⟨w.heap.size, 9, none⟩ = some (.bool (lf 3)) := (blk_cell c1 9).trans rfl
  have d10 : W2.cell? ⟨w.heap.size, 10, none⟩ = some (.bool (lf 4)) := (blk_cell c1 10).trans rfl
  have d11 : W2.cell? ⟨w.heap.size, 11, none⟩ = some (.bool (lf 5)) := (blk_cell c1 11).trans rfl
  have d12 : W2.cell? ⟨w.heap.size, 12, none⟩ = some (.bool (lf 6)) := (blk_cell c1 12).trans rfl
  have d13 : W2.cell? ⟨w.heap.size, 13, none⟩ = some (.bool (lf 7)) := (blk_cell c1 13).trans rfl
  have d14 : W2.cell? ⟨w.heap.size, 14, none⟩ = some (.int .i64 e0) := (blk_cell c1 14).trans rfl
  have d15 : W2.cell? ⟨w.heap.size, 15, none⟩ = some (.int .i64 e1) := (blk_cell c1 15).trans rfl
  have j0 : W2.cell? ⟨w.heap.size + 1, 0, none⟩ = some (.int .i64 (j.one : Int)) := (blk_cell c2 0).trans rfl
  have j1 : W2.cell? ⟨w.heap.size + 1, 1, none⟩ = some (.int .i64 (j.two : Int)) := (blk_cell c2 1).trans rfl
  have j2 : W2.cell? ⟨w.heap.size + 1, 2, none⟩ = some (.int .i64 1) := (blk_cell c2 2).trans rfl
  have j3 : W2.cell? ⟨w.heap.size + 1, 3, none⟩ = some (.int .i64 j.lo) := (blk_cell c2 3).trans rfl
  have j4 : W2.cell? ⟨w.heap.size + 1, 4, none⟩ = some (.int .i64 j.hi) := (blk_cell c2 4).trans rfl
  have f1 : W2.cell? ⟨0, 1, none⟩ = some (.func (.func 106) #[] #[]) := pw_cell_below hB HG.out.2.2
  have HB := zh hB
  clear hB c1 c2
  repeat still_step
  refine wpStill_nil ?_
  change wpList _ _ _ _ _ W.drew
  rw [HW2.out]
  clear HW2
  have HC : Aside0 (∀ W3, Calls Tryd.prog 106 #[.agg #[vH, vS, vP, .int .i64 b0, .int .i64 b1, vA, .bool (lf 0), .bool (lf 1), .bool (lf 2), .bool (lf 3), .bool (lf 4), .bool (lf 5), .bool (lf 6), .bool (lf 7), .int .i64 e0, .int .i64 e1], .agg #[.int .i64 (j.one : Int), .int .i64 (j.two : Int), .int .i64 1, .int .i64 j.lo, .int .i64 j.hi], .int .i64 p, .int .i64 q] W3 fun e w' => e = .returned (.bool (fitB (e0, e1) j p q)) ∧ Below W3.heap.size W3 w') := ⟨fun W3 => by have := pair_calls vH vS vP vA b0 b1 lf e0 e1 j p q W3 HS.out hp hp' hq hq'; rw [HKV.out] at this; exact this⟩
  go_wp2_with (go_at_call 106; (with_reducible refine (HC.out _).mono ?_); rintro e w3 ⟨rfl, hb⟩; have HB3 := zh (below_step HB.out hb); clear hb)
  go_ret
  exact ⟨rfl, HB3.out⟩
 ·obtain rfl : kv = 0 := hkv.symm.trans (kindV_step hs)
  have HS := zh hs
  clear hkv hs
  go_enter Tryd.func53, Tryd.ntmps53
  go_wp2
  have hB : Below w.heap.size w ((w.alloc (.cells #[vH, vS, vP, .int .i64 b0, .int .i64 b1, vA, .bool (lf 0), .bool (lf 1), .bool (lf 2), .bool (lf 3), .bool (lf 4), .bool (lf 5), .bool (lf 6), .bool (lf 7), .int .i64 e0, .int .i64 e1] 77)).alloc (.cells #[.int .i64 (j.one : Int), .int .i64 (j.two : Int), .int .i64 0, .int .i64 j.lo, .int .i64 j.hi] 80)) := by repeat (first | exact Below.refl _ _ | apply below_alloc)
  have c1 : ((w.alloc (.cells #[vH, vS, vP, .int .i64 b0, .int .i64 b1, vA, .bool (lf 0), .bool (lf 1), .bool (lf 2), .bool (lf 3), .bool (lf 4), .bool (lf 5), .bool (lf 6), .bool (lf 7), .int .i64 e0, .int .i64 e1] 77)).alloc (.cells #[.int .i64 (j.one : Int), .int .i64 (j.two : Int), .int .i64 0, .int .i64 j.lo, .int .i64 j.hi] 80)).heap[w.heap.size]? = some (.cells #[vH, vS, vP, .int .i64 b0, .int .i64 b1, vA, .bool (lf 0), .bool (lf 1), .bool (lf 2), .bool (lf 3), .bool (lf 4), .bool (lf 5), .bool (lf 6), .bool (lf 7), .int .i64 e0, .int .i64 e1] 77 (0, 0)) := blk_alloc (heap_alloc_new w _) _
  have c2 : ((w.alloc (.cells #[vH, vS, vP, .int .i64 b0, .int .i64 b1, vA, .bool (lf 0), .bool (lf 1), .bool (lf 2), .bool (lf 3), .bool (lf 4), .bool (lf 5), .bool (lf 6), .bool (lf 7), .int .i64 e0, .int .i64 e1] 77)).alloc (.cells #[.int .i64 (j.one : Int), .int .i64 (j.two : Int), .int .i64 0, .int .i64 j.lo, .int .i64 j.hi] 80)).heap[w.heap.size + 1]? = some (.cells #[.int .i64 (j.one : Int), .int .i64 (j.two : Int), .int .i64 0, .int .i64 j.lo, .int .i64 j.hi] 80 (0, 0)) := alloc_at _ _ _ (by simp)
  generalize ((w.alloc (.cells #[vH, vS, vP, .int .i64 b0, .int .i64 b1, vA, .bool (lf 0), .bool (lf 1), .bool (lf 2), .bool (lf 3), .bool (lf 4), .bool (lf 5), .bool (lf 6), .bool (lf 7), .int .i64 e0, .int .i64 e1] 77)).alloc (.cells #[.int .i64 (j.one : Int), .int .i64 (j.two : Int), .int .i64 0, .int .i64 j.lo, .int .i64 j.hi] 80)) = W at hB c1 c2 ⊢
  refine wp_region_still_tail 8 zk zk ?_
  simp only [List.take_succ_cons, List.take_zero, List.drop_succ_cons, List.drop_zero]
  replace hB : Below w.heap.size w W.drew := below_drew1 hB
  replace c1 : W.drew.heap[w.heap.size]? = some (.cells #[vH, vS, vP, .int .i64 b0, .int .i64 b1, vA, .bool (lf 0), .bool (lf 1), .bool (lf 2), .bool (lf 3), .bool (lf 4), .bool (lf 5), .bool (lf 6), .bool (lf 7), .int .i64 e0, .int .i64 e1] 77 (0, 0)) := c1
  replace c2 : W.drew.heap[w.heap.size + 1]? = some (.cells #[.int .i64 (j.one : Int), .int .i64 (j.two : Int), .int .i64 0, .int .i64 j.lo, .int .i64 j.hi] 80 (0, 0)) := c2
  change wpStill Tryd.prog _ W.drew _ _ _
  obtain ⟨W2, hW2⟩ : ∃ W2, W.drew = W2 := ⟨_, rfl⟩
  rw [hW2] at hB c1 c2 ⊢
  have HW2 := zh hW2
  clear hW2
  have d0 : W2.cell? ⟨w.heap.size, 0, none⟩ = some (vH) := (blk_cell c1 0).trans rfl
  have d1 : W2.cell? ⟨w.heap.size, 1, none⟩ = some (vS) := (blk_cell c1 1).trans rfl
  have d2 : W2.cell? ⟨w.heap.size, 2, none⟩ = some (vP) := (blk_cell c1 2).trans rfl
  have d3 : W2.cell? ⟨w.heap.size, 3, none⟩ = some (.int .i64 b0) := (blk_cell c1 3).trans rfl
  have d4 : W2.cell? ⟨w.heap.size, 4, none⟩ = some (.int .i64 b1) := (blk_cell c1 4).trans rfl
  have d5 : W2.cell? ⟨w.heap.size, 5, none⟩ = some (vA) := (blk_cell c1 5).trans rfl
  have d6 : W2.cell? ⟨w.heap.size, 6, none⟩ = some (.bool (lf 0)) := (blk_cell c1 6).trans rfl
  have d7 : W2.cell? ⟨w.heap.size, 7, none⟩ = some (.bool (lf 1)) := (blk_cell c1 7).trans rfl
  have d8 : W2.cell? ⟨w.heap.size, 8, none⟩ = some (.bool (lf 2)) := (blk_cell c1 8).trans rfl
  have d9 : W2.cell? ⟨w.heap.size, 9, none⟩ = some (.bool (lf 3)) := (blk_cell c1 9).trans rfl
  have d10 : W2.cell? ⟨w.heap.size, 10, none⟩ = some (.bool (lf 4)) := (blk_cell c1 10).trans rfl
  have d11 : W2.cell? ⟨w.heap.size, 11, none⟩ = some (.bool (lf 5)) := (blk_cell c1 11).trans rfl
  have d12 : W2.cell? ⟨w.heap.size, 12, none⟩ = some (.bool (lf 6)) := (blk_cell c1 12).trans rfl
  have d13 : W2.cell? ⟨w.heap.size, 13, none⟩ = some (.bool (lf 7)) := (blk_cell c1 13).trans rfl
  have d14 : W2.cell? ⟨w.heap.size, 14, none⟩ = some (.int .i64 e0) := (blk_cell c1 14).trans rfl
  have d15 : W2.cell? ⟨w.heap.size, 15, none⟩ = some (.int .i64 e1) := (blk_cell c1 15).trans rfl
  have j0 : W2.cell? ⟨w.heap.size + 1, 0, none⟩ = some (.int .i64 (j.one : Int)) := (blk_cell c2 0).trans rfl
  have j1 : W2.cell? ⟨w.heap.size + 1, 1, none⟩ = some (.int .i64 (j.two : Int)) := (blk_cell c2 1).trans rfl
  have j2 : W2.cell? ⟨w.heap.size + 1, 2, none⟩ = some (.int .i64 0) := (blk_cell c2 2).trans rfl
  have j3 : W2.cell? ⟨w.heap.size + 1, 3, none⟩ = some (.int .i64 j.lo) := (blk_cell c2 3).trans rfl
  have j4 : W2.cell? ⟨w.heap.size + 1, 4, none⟩ = some (.int .i64 j.hi) := (blk_cell c2 4).trans rfl
  have f1 : W2.cell? ⟨0, 0, none⟩ = some (.func (.func 105) #[] #[]) := pw_cell_below hB HG.out.2.1
  have HB := zh hB
  clear hB c1 c2
  repeat still_step
  refine wpStill_nil ?_
  change wpList _ _ _ _ _ W.drew
  rw [HW2.out]
  clear HW2
  have HC : Aside0 (∀ W3, Calls Tryd.prog 105 #[.agg #[vH, vS, vP, .int .i64 b0, .int .i64 b1, vA, .bool (lf 0), .bool (lf 1), .bool (lf 2), .bool (lf 3), .bool (lf 4), .bool (lf 5), .bool (lf 6), .bool (lf 7), .int .i64 e0, .int .i64 e1], .agg #[.int .i64 (j.one : Int), .int .i64 (j.two : Int), .int .i64 0, .int .i64 j.lo, .int .i64 j.hi], .int .i64 p, .int .i64 q] W3 fun e w' => e = .returned (.bool (fitB (e0, e1) j p q)) ∧ Below W3.heap.size W3 w') := ⟨fun W3 => by have := step_calls vH vS vP vA b0 b1 lf e0 e1 j p q W3 HJ.out HS.out hp hp' hq hq'; rw [HKV.out] at this; exact this⟩
  go_wp2_with (go_at_call 105; (with_reducible refine (HC.out _).mono ?_); rintro e w3 ⟨rfl, hb⟩; have HB3 := zh (below_step HB.out hb); clear hb)
  go_ret
  exact ⟨rfl, HB3.out⟩
end Go.Proofs.YtgehkojccmkggaaDoor.K
end
section
namespace Go.Proofs.YtgehkojccmkggaaDoor.K
open Go.RowKit Go.Shelf Go.Proofs.YtgehkojccmkggaaDoorW.PrintWords Go.Proofs.YtgehkojccmkggaaDoorW.PrintLast Go.Proofs.YtgehkojccmkggaaDoorW.PrintMore Go.Proofs.YtgehkojccmkggaaDoor.H Tune
set_option linter.unusedVariables false
set_option linter.unusedSimpArgs false
attribute [local go_sem] Oper.semAt_some
def encO (x : Nat × J) : Array Value := #[.int .i64 (x.1 : Int), .agg #[.int .i64 (x.2.one : Int), .int .i64 (x.2.two : Int), .int .i64 (kindV x.2), .int .i64 x.2.lo, .int .i64 x.2.hi]]
def OkO (n : Nat) (x : Nat × J) : Prop := x.1 < n ∧ OkJ x.2
theorem eqI_cons {P : Program} {d e n i : Nat} {is : List Nat} {xs ys : Array Value} {a b : Value} {r s : Bool} {w : World} (ha : (part e xs (i * n)).run P w = .ok a w) (hb : (part e ys (i * n)).run P w = .ok b w) (he : (Op.equalIn d e a b).run P w = .ok r w) (hr : (Op.eqItems d e n xs ys is).run P w = .ok s w) : (Op.eqItems d e n xs ys (i :: is)).run P w = .ok (r && s) w := by
 simp only [Op.eqItems, Sem.run_bind, ha, hb, he, Result.andThen_ok]
 cases r
 ·simp
 ·simpa using hr
theorem eqI_nil {P : Program} {d e n : Nat} {xs ys : Array Value} {w : World} : (Op.eqItems d e n xs ys []).run P w = .ok true w := by simp [Op.eqItems]
theorem info4 : (Tryd.prog.info? 4).map (fun i => (i.zero, i.size, i.bytes)) = some (some (.bool false), 1, 1) := by kernel_rfl
theorem eqA75 (d : Nat) (w : World) (x0 x1 x2 x3 x4 x5 x6 x7 y0 y1 y2 y3 y4 y5 y6 y7 : Bool) : (Op.equalIn (d + 2) 75 (.agg #[.bool x0, .bool x1, .bool x2, .bool x3, .bool x4, .bool x5, .bool x6, .bool x7]) (.agg #[.bool y0, .bool y1, .bool y2, .bool y3, .bool y4, .bool y5, .bool y6, .bool y7])).run Tryd.prog w = .ok (x0 == y0 && (x1 == y1 && (x2 == y2 && (x3 == y3 && (x4 == y4 && (x5 == y5 && (x6 == y6 && (x7 == y7)))))))) w := by
 obtain ⟨i, hi, _⟩ := info_parts info4
 have c_ : Tryd.prog.cellsOf 4 = 1 := by kernel_rfl
 have hu := Tryd.underlying4
 rw [run_equalIn_array w (d + 1) _ _ Tryd.underlying75 hi, c_, ← Bool.and_true (x7 == y7)]
 exact eqI_cons (a := .bool x0) (b := .bool y0) (by go_simp) (by go_simp) (by go_simp) (eqI_cons (a := .bool x1) (b := .bool y1) (by go_simp) (by go_simp) (by go_simp) (eqI_cons (a := .bool x2) (b := .bool y2) (by go_simp) (by go_simp) (by go_simp) (eqI_cons (a := .bool x3) (b := .bool y3) (by go_simp) (by go_simp) (by go_simp) (eqI_cons (a := .bool x4) (b := .bool y4) (by go_simp) (by go_simp) (by go_simp) (eqI_cons (a := .bool x5) (b := .bool y5) (by go_simp) (by go_simp) (by go_simp) (eqI_cons (a := .bool x6) (b := .bool y6) (by go_simp) (by go_simp) (by go_simp) (eqI_cons (a := .bool x7) (b := .bool y7) (by go_simp) (by go_simp) (by go_simp) eqI_nil)))))))
set_option maxRecDepth 100000 in
theorem joined_calls (vH vS vP vA : Value) (b0 b1 : Int) (lf : Nat → Bool) (e0 e1 : Int) (key : Nat) (w : World) :
  CallsIn Fence.wide 9 Tryd.prog 81 #[.agg #[vH, vS, vP, .int .i64 b0, .int .i64 b1, vA, .bool (lf 0), .bool (lf 1), .bool (lf 2), .bool (lf 3), .bool (lf 4), .bool (lf 5), .bool (lf 6), .bool (lf 7), .int .i64 e0, .int .i64 e1], .int .i64 (key : Int)] w fun e w' => e = .returned (.func (.func 86) #[] #[.pointer (some ⟨w.heap.size, 0, none⟩), .pointer (some ⟨w.heap.size + 1, 0, none⟩)]) ∧
   w' = (w.alloc (.cells #[vH, vS, vP, .int .i64 b0, .int .i64 b1, vA, .bool (lf 0), .bool (lf 1), .bool (lf 2), .bool (lf 3), .bool (lf 4), .bool (lf 5), .bool (lf 6), .bool (lf 7), .int .i64 e0, .int .i64 e1] 77)).alloc (.cells #[.int .i64 (key : Int)] 3) := by
 have hu77 := Tryd.underlying77
 refine callsIn_of_wp Tryd.func81 rfl trivial ?_ rfl
 simp only [Tryd.ntmps81, List.size_toArray, List.length_cons, List.length_nil, Nat.reduceAdd, Nat.reduceSub, Array.replicate_succ, Array.replicate_zero, List.push_toArray, List.append_toArray, List.nil_append, List.cons_append]
 gi_wp2
 go_ret
 exact ⟨rfl, rfl⟩
theorem nbrs_snoc (js : List J) (lf : Nat → Bool) (key i : Nat) (h : i < js.length) : nbrs (js.take (i + 1)) lf key = nbrs (js.take i) lf key ++ nbrs [js[i]] lf key := by
 rw [List.take_succ_eq_append_getElem h, nbrs_append]
theorem nbrs_pre (js : List J) (lf : Nat → Bool) (key i : Nat) : nbrs (js.take i) lf key <+: nbrs js lf key := by
 refine ⟨nbrs (js.drop i) lf key, ?_⟩
 rw [← nbrs_append, List.take_append_drop]
theorem J_at {w : World} {A : Option Addr} {js : List J} (h : Kd.C k80 w A js.length (js.map ofJ)) (i : Nat) (hi : i < js.length) :
  ∃ ad, A = some ad ∧ w.cell? (ad.add (i * 5)) = some (.int .i64 (js[i].one : Int)) ∧ w.cell? ⟨(ad.add (i * 5)).block, (ad.add (i * 5)).off + 1, none⟩ = some (.int .i64 (js[i].two : Int)) ∧ w.cell? ⟨(ad.add (i * 5)).block, (ad.add (i * 5)).off + 2, none⟩ = some (.int .i64 (kindV js[i])) ∧ w.cell? ⟨(ad.add (i * 5)).block, (ad.add (i * 5)).off + 3, none⟩ = some (.int .i64 js[i].lo) ∧ w.cell? ⟨(ad.add (i * 5)).block, (ad.add (i * 5)).off + 4, none⟩ = some (.int .i64 js[i].hi) := by
 have h' := at_T80 (xs := js.map ofJ) h (i : Int) (by omega) (by omega)
 have e : rd_T80 (js.map ofJ) (i : Int) = ofJ js[i] := by
  unfold rd_T80
  simp [List.getD_eq_getElem?_getD, hi]
 rw [e] at h'
 simp only [Int.toNat_natCast] at h'
 exact h'
end Go.Proofs.YtgehkojccmkggaaDoor.K
end
section
namespace Go.Proofs.YtgehkojccmkggaaDoor.K
open Go.RowKit Go.Shelf Go.Proofs.YtgehkojccmkggaaDoorW.PrintWords Go.Proofs.YtgehkojccmkggaaDoorW.PrintLast Go.Proofs.YtgehkojccmkggaaDoorW.PrintMore Go.Proofs.YtgehkojccmkggaaDoor.H Tune
set_option linter.unusedVariables false
set_option linter.unusedSimpArgs false
attribute [local go_sem] Oper.semAt_some
attribute [local go_sem high] eqA75
theorem left_cell {w : World} {B : Nat} (vH vS vP vA : Value) (b0 b1 : Int) (lf : Nat → Bool) (e0 e1 : Int) (h : w.heap[B]? = some (.cells #[vH, vS, vP, .int .i64 b0, .int .i64 b1, vA, .bool (lf 0), .bool (lf 1), .bool (lf 2), .bool (lf 3), .bool (lf 4), .bool (lf 5), .bool (lf 6), .bool (lf 7), .int .i64 e0, .int .i64 e1] 77 (0, 0))) (x : Nat) (hx : x < 8) : w.cell? ⟨B, 6 + x, none⟩ = some (.bool (lf x)) := by
 refine (blk_cell h (6 + x)).trans ?_
 rcases x with _ | _ | _ | _ | _ | _ | _ | _ | x
 all_goals first | rfl | omega
set_option maxRecDepth 100000 in
set_option maxHeartbeats 4000000 in
theorem joined_seq (vH vS vP : Value) (b0 b1 : Int) (lf : Nat → Bool) (e0 e1 : Int) (A3 : Option Addr) (c3 : Nat) (js : List J) (key n : Nat) {m : Nat} (M : Mm m) (B B1 : Nat) (S : Nat → Prop) (w0 w : World) (hn : n ≤ 8)
  (hb0 : Below w0.heap.size w0 w) (hm0 : w0.heap.size ≤ m) (hA : Kd.C k80 w0 A3 js.length (js.map ofJ)) (hjs : ∀ (i : Nat) (hi : i < js.length), OkJ js[i] ∧ js[i].one < n ∧ js[i].two < n ∧ js[i].one ≠ js[i].two)
  (hB : w.heap[B]? = some (.cells #[vH, vS, vP, .int .i64 b0, .int .i64 b1, .slice A3 js.length c3, .bool (lf 0), .bool (lf 1), .bool (lf 2), .bool (lf 3), .bool (lf 4), .bool (lf 5), .bool (lf 6), .bool (lf 7), .int .i64 e0, .int .i64 e1] 77 (0, 0))) (hB1 : w.heap[B1]? = some (.cells #[.int .i64 (key : Int)] 3 (0, 0)))
  (hSB : S B) (hSB1 : S B1) (hS0 : ∀ i, i < w0.heap.size → S i) (hBm : B ≠ m) (hB1m : B1 ≠ m) (hmw : m < w.heap.size) :
  SeqM Tryd.prog 86 #[.pointer (some ⟨B, 0, none⟩), .pointer (some ⟨B1, 0, none⟩)] encO (OkO n) M S (nbrs js lf key) w := by
 intro l J Jx W hW hJ hJx hY h0
 have hu77 := Tryd.underlying77
 have hu80 := Tryd.underlying80
 have hu75 := Tryd.underlying75
 have hu73 := Tryd.underlying73
 have HA := zh hA
 have hlen : js.length ≤ 9223372036854775807 := by have := hA.2.1; simpa using this
 have HBW := zh (hW.at hB hSB hBm)
 have HB1W := zh (hW.at hB1 hSB1 hB1m)
 have HY := zh hY
 have HJ := zh hJ
 have HJx := zh hJx
 have H0 := zh h0
 have HJS := zh hjs
 have HS0 := zh hS0
 have HB0 := zh (hW.base hb0 hS0 hm0)
 have HMlt : Aside0 (∀ X, KR M (fun i => S i ∨ W.heap.size ≤ i) W X → m < X.heap.size) := ⟨fun X h => by have := h.size; have := hW.size; omega⟩
 have t5 : W.cell? ⟨B, 5, none⟩ = some (.slice A3 js.length c3) := vb HBW 5
 clear hW hB hB1 hY hJ hJx h0 hA hb0 hjs hS0
 refine callsIn_of_wp Tryd.func86 rfl trivial ?_ rfl
 simp only [Tryd.ntmps86, List.size_toArray, List.length_cons, List.length_nil, Nat.reduceAdd, Nat.reduceSub, Array.replicate_succ, Array.replicate_zero, List.push_toArray, List.append_toArray, List.nil_append, List.cons_append]
 gi_wp2
 clear t5
 gi_loopw [9] (fun u wr => ∃ i : Nat, i ≤ js.length ∧ u = .int .i64 i ∧ Aside0 (J (nbrs (js.take i) lf key) wr) ∧ Aside0 (KR M (fun i => S i ∨ W.heap.size ≤ i) W wr)) (fun u _ => js.length - (intOf u).toNat)
 case atStart => exact ⟨0, Nat.zero_le _, rfl, H0, ⟨KR.refl _ _ _⟩⟩
 case round =>
  obtain ⟨i, hi, rfl, HJ1, HK1⟩ := hrel
  by_cases hlt : i < js.length
  ·have hlt' : (i : Int) < (js.length : Int) := by omega
   have HBx := HK1.out.base HB0.out (fun i hi => .inl (HS0.out i hi)) hm0
   obtain ⟨ad, rfl, a0, a1, a2, a3, a4⟩ := J_at (Kd.C_below HA.out HBx) i hlt
   obtain ⟨hok, ho1, ho2, hne⟩ := HJS.out i hlt
   have HSN := zh (nbrs_snoc js lf key i hlt)
   have HPR := zh (nbrs_pre js lf key (i + 1))
   generalize js[i] = j at a0 a1 a2 a3 a4 hok ho1 ho2 hne HSN
   have HOK := zh hok
   clear hok
   have Bx := zh (HK1.out.at HBW.out (.inl hSB) hBm)
   have B1x := zh (HK1.out.at HB1W.out (.inl hSB1) hB1m)
   have Cx := zh (blk_alloc Bx.out (.cells #[.int .i64 (j.one : Int), .int .i64 (j.two : Int), .int .i64 (kindV j), .int .i64 j.lo, .int .i64 j.hi] 80))
   have C1x := zh (blk_alloc B1x.out (.cells #[.int .i64 (j.one : Int), .int .i64 (j.two : Int), .int .i64 (kindV j), .int .i64 j.lo, .int .i64 j.hi] 80))
   have Dx := zh (alloc_at wr (.cells #[.int .i64 (j.one : Int), .int .i64 (j.two : Int), .int .i64 (kindV j), .int .i64 j.lo, .int .i64 j.hi] 80) wr.heap.size rfl)
   have hl1 := left_cell vH vS vP (.slice (some ad) js.length c3) b0 b1 lf e0 e1 Cx.out j.one (by omega)
   have hl2 := left_cell vH vS vP (.slice (some ad) js.length c3) b0 b1 lf e0 e1 Cx.out j.two (by omega)
   have t6 := left_cell vH vS vP (.slice (some ad) js.length c3) b0 b1 lf e0 e1 Cx.out 0 (by omega)
   have t7 := left_cell vH vS vP (.slice (some ad) js.length c3) b0 b1 lf e0 e1 Cx.out 1 (by omega)
   have t8 := left_cell vH vS vP (.slice (some ad) js.length c3) b0 b1 lf e0 e1 Cx.out 2 (by omega)
   have t9 := left_cell vH vS vP (.slice (some ad) js.length c3) b0 b1 lf e0 e1 Cx.out 3 (by omega)
   have t10 := left_cell vH vS vP (.slice (some ad) js.length c3) b0 b1 lf e0 e1 Cx.out 4 (by omega)
   have t11 := left_cell vH vS vP (.slice (some ad) js.length c3) b0 b1 lf e0 e1 Cx.out 5 (by omega)
   have t12 := left_cell vH vS vP (.slice (some ad) js.length c3) b0 b1 lf e0 e1 Cx.out 6 (by omega)
   have t13 := left_cell vH vS vP (.slice (some ad) js.length c3) b0 b1 lf e0 e1 Cx.out 7 (by omega)
   have u0 : (wr.alloc (.cells #[.int .i64 (j.one : Int), .int .i64 (j.two : Int), .int .i64 (kindV j), .int .i64 j.lo, .int .i64 j.hi] 80)).cell? ⟨B1, 0, none⟩ = some (.int .i64 (key : Int)) := vb C1x 0
   have hDm : wr.heap.size ≠ m := by have := HMlt.out _ HK1.out; omega
   by_cases hall : (!lf 0 && (!lf 1 && (!lf 2 && (!lf 3 && (!lf 4 && (!lf 5 && (!lf 6 && !lf 7))))))) = true
   ·simp only [Bool.and_eq_true, Bool.not_eq_true'] at hall
    obtain ⟨z0, z1, z2, z3, z4, z5, z6, z7⟩ := hall
    have hz : ∀ x, x < 8 → lf x = false := fun x hx => by
     rcases x with _ | _ | _ | _ | _ | _ | _ | _ | x
     all_goals first | assumption | omega
    have hv1 := hz j.one (by omega)
    have hv2 := hz j.two (by omega)
    clear hz
    by_cases hk1 : j.one = key
    ·have hk1b : ((j.one : Int) == (key : Int)) = true := by rw [hk1]; exact beq_self_eq_true _
     have hk1c : (j.one == key) = true := by rw [hk1]; exact beq_self_eq_true _
     have hk1d : decide (j.one = key) = true := decide_eq_true hk1
     have hk2b : ((j.two : Int) == (key : Int)) = false := beq_eq_false_iff_ne.2 (by omega)
     have hk2c : (j.two == key) = false := beq_eq_false_iff_ne.2 (by omega)
     have hk2d : decide (j.two = key) = false := decide_eq_false (by omega)
     have hk2 : ¬ j.two = key := by omega
     have HN1 := zh (show nbrs [j] lf key = [(j.two, j)] by rw [nbrs_one, hv1, hv2]; simp [nbr1, hk1, hk2])
     clear hk1 hk2
     obtain ⟨fn, tmps, assign, body, hy, hR⟩ := yield_any' 8 (HY.out (nbrs (js.take i) lf key) (j.two, j) (wr.alloc (.cells #[.int .i64 (j.one : Int), .int .i64 (j.two : Int), .int .i64 (kindV j), .int .i64 j.lo, .int .i64 j.hi] 80)) ⟨ho2, HOK.out⟩ dQ6 (HJ.out _ _ _ HJ1.out ((KB.alloc M wr _).weak _)))
     dsimp only [encO] at hy
     have hR' := zh hR
     clear hR
     gi_wp2
     refine hR'.out.mono ?_
     rintro e W3 (⟨rfl, hJ4, hk4⟩ | ⟨rfl, hJx4, hk4⟩)
     ·have HJ4 := zh hJ4
      have HK4 := zh ((HK1.out.step (KB.alloc M wr (.cells #[.int .i64 (j.one : Int), .int .i64 (j.two : Int), .int .i64 (kindV j), .int .i64 j.lo, .int .i64 j.hi] 80))).trans hk4)
      have hwr := HK1.out.size
      have E0 := hk4.at Dx.out (.inr hwr) hDm
      have E1 := hk4.at C1x.out (.inl hSB1) hB1m
      have v0 : W3.cell? ⟨B1, 0, none⟩ = some (.int .i64 (key : Int)) := (blk_cell E1 0).trans rfl
      have w0 : W3.cell? ⟨wr.heap.size, 0, none⟩ = some (.int .i64 (j.one : Int)) := (blk_cell E0 0).trans rfl
      have w1 : W3.cell? ⟨wr.heap.size, 1, none⟩ = some (.int .i64 (j.two : Int)) := (blk_cell E0 1).trans rfl
      have w2 : W3.cell? ⟨wr.heap.size, 2, none⟩ = some (.int .i64 (kindV j)) := (blk_cell E0 2).trans rfl
      have w3 : W3.cell? ⟨wr.heap.size, 3, none⟩ = some (.int .i64 j.lo) := (blk_cell E0 3).trans rfl
      have w4 : W3.cell? ⟨wr.heap.size, 4, none⟩ = some (.int .i64 j.hi) := (blk_cell E0 4).trans rfl
      clear hJ4 hk4 E0 E1 hy
      gi_wp2
      refine ⟨fun _ h_ => (by cases h_), ?_⟩
      gi_wp2
      go_roundw
      case rel => exact ⟨i + 1, by omega, by go_num, ⟨by rw [HSN.out, HN1.out]; exact HJ4.out⟩, HK4⟩
      case measure => simp [intOf]; omega
     ·have HJx4 := zh hJx4
      have hwr := HK1.out.size
      have E0 := hk4.at Dx.out (.inr hwr) hDm
      have E1 := hk4.at C1x.out (.inl hSB1) hB1m
      have v0 : W3.cell? ⟨B1, 0, none⟩ = some (.int .i64 (key : Int)) := (blk_cell E1 0).trans rfl
      have w0 : W3.cell? ⟨wr.heap.size, 0, none⟩ = some (.int .i64 (j.one : Int)) := (blk_cell E0 0).trans rfl
      have w1 : W3.cell? ⟨wr.heap.size, 1, none⟩ = some (.int .i64 (j.two : Int)) := (blk_cell E0 1).trans rfl
      have w2 : W3.cell? ⟨wr.heap.size, 2, none⟩ = some (.int .i64 (kindV j)) := (blk_cell E0 2).trans rfl
      have w3 : W3.cell? ⟨wr.heap.size, 3, none⟩ = some (.int .i64 j.lo) := (blk_cell E0 3).trans rfl
      have w4 : W3.cell? ⟨wr.heap.size, 4, none⟩ = some (.int .i64 j.hi) := (blk_cell E0 4).trans rfl
      clear hJx4 hk4 E0 E1 hy
      gi_wp2
      all_goals (try (exfalso; have hq : ∃ b, some undef = some (Value.bool b) := ⟨_, by assumption⟩; obtain ⟨b_, hq⟩ := hq; cases hq; done))
      refine ⟨fun _ h_ => (by cases h_), ?_⟩
      gi_wp2
      refine bodyPost_ret (results_none rfl _ _ _) rfl ?_
      exact ⟨⟨_, rfl⟩, .inr ⟨_, by rw [← HN1.out, ← HSN.out]; exact HPR.out, HJx4.out⟩⟩
    ·have hk1b : ((j.one : Int) == (key : Int)) = false := beq_eq_false_iff_ne.2 (by omega)
     have hk1c : (j.one == key) = false := beq_eq_false_iff_ne.2 (by omega)
     have hk1d : decide (j.one = key) = false := decide_eq_false (by omega)
     by_cases hk2 : j.two = key
     ·have hk2b : ((j.two : Int) == (key : Int)) = true := by rw [hk2]; exact beq_self_eq_true _
      have hk2c : (j.two == key) = true := by rw [hk2]; exact beq_self_eq_true _
      have hk2d : decide (j.two = key) = true := decide_eq_true hk2
      have HN1 := zh (show nbrs [j] lf key = [(j.one, j)] by rw [nbrs_one, hv1, hv2]; simp [nbr1, hk1, hk2])
      clear hk1 hk2
      obtain ⟨fn, tmps, assign, body, hy, hR⟩ := yield_any' 8 (HY.out (nbrs (js.take i) lf key) (j.one, j) (wr.alloc (.cells #[.int .i64 (j.one : Int), .int .i64 (j.two : Int), .int .i64 (kindV j), .int .i64 j.lo, .int .i64 j.hi] 80)) ⟨ho1, HOK.out⟩ dQ6 (HJ.out _ _ _ HJ1.out ((KB.alloc M wr _).weak _)))
      dsimp only [encO] at hy
      have hR' := zh hR
      clear hR
      gi_wp2
      refine ⟨fun _ h_ => (by cases h_), ?_⟩
      gi_wp2
      refine hR'.out.mono ?_
      rintro e W3 (⟨rfl, hJ4, hk4⟩ | ⟨rfl, hJx4, hk4⟩)
      ·have HJ4 := zh hJ4
       have HK4 := zh ((HK1.out.step (KB.alloc M wr (.cells #[.int .i64 (j.one : Int), .int .i64 (j.two : Int), .int .i64 (kindV j), .int .i64 j.lo, .int .i64 j.hi] 80))).trans hk4)
       have hwr := HK1.out.size
       have E0 := hk4.at Dx.out (.inr hwr) hDm
       have E1 := hk4.at C1x.out (.inl hSB1) hB1m
       have v0 : W3.cell? ⟨B1, 0, none⟩ = some (.int .i64 (key : Int)) := (blk_cell E1 0).trans rfl
       have w0 : W3.cell? ⟨wr.heap.size, 0, none⟩ = some (.int .i64 (j.one : Int)) := (blk_cell E0 0).trans rfl
       have w1 : W3.cell? ⟨wr.heap.size, 1, none⟩ = some (.int .i64 (j.two : Int)) := (blk_cell E0 1).trans rfl
       have w2 : W3.cell? ⟨wr.heap.size, 2, none⟩ = some (.int .i64 (kindV j)) := (blk_cell E0 2).trans rfl
       have w3 : W3.cell? ⟨wr.heap.size, 3, none⟩ = some (.int .i64 j.lo) := (blk_cell E0 3).trans rfl
       have w4 : W3.cell? ⟨wr.heap.size, 4, none⟩ = some (.int .i64 j.hi) := (blk_cell E0 4).trans rfl
       clear hJ4 hk4 E0 E1 hy
       gi_wp2
       go_roundw
       case rel => exact ⟨i + 1, by omega, by go_num, ⟨by rw [HSN.out, HN1.out]; exact HJ4.out⟩, HK4⟩
       case measure => simp [intOf]; omega
      ·have HJx4 := zh hJx4
       have hwr := HK1.out.size
       have E0 := hk4.at Dx.out (.inr hwr) hDm
       have E1 := hk4.at C1x.out (.inl hSB1) hB1m
       have v0 : W3.cell? ⟨B1, 0, none⟩ = some (.int .i64 (key : Int)) := (blk_cell E1 0).trans rfl
       have w0 : W3.cell? ⟨wr.heap.size, 0, none⟩ = some (.int .i64 (j.one : Int)) := (blk_cell E0 0).trans rfl
       have w1 : W3.cell? ⟨wr.heap.size, 1, none⟩ = some (.int .i64 (j.two : Int)) := (blk_cell E0 1).trans rfl
       have w2 : W3.cell? ⟨wr.heap.size, 2, none⟩ = some (.int .i64 (kindV j)) := (blk_cell E0 2).trans rfl
       have w3 : W3.cell? ⟨wr.heap.size, 3, none⟩ = some (.int .i64 j.lo) := (blk_cell E0 3).trans rfl
       have w4 : W3.cell? ⟨wr.heap.size, 4, none⟩ = some (.int .i64 j.hi) := (blk_cell E0 4).trans rfl
       clear hJx4 hk4 E0 E1 hy
       gi_wp2
       refine bodyPost_ret (results_none rfl _ _ _) rfl ?_
       exact ⟨⟨_, rfl⟩, .inr ⟨_, by rw [← HN1.out, ← HSN.out]; exact HPR.out, HJx4.out⟩⟩
     ·have hk2b : ((j.two : Int) == (key : Int)) = false := beq_eq_false_iff_ne.2 (by omega)
      have hk2c : (j.two == key) = false := beq_eq_false_iff_ne.2 (by omega)
      have hk2d : decide (j.two = key) = false := decide_eq_false (by omega)
      gi_wp2
      refine ⟨fun _ h_ => (by cases h_), ?_⟩
      gi_wp2
      go_roundw
      case rel => exact ⟨i + 1, by omega, by go_num, ⟨by rw [HSN.out, show nbrs [j] lf key = [] by rw [nbrs_one, hv1, hv2]; simp [nbr1, hk1, hk2], List.append_nil]; exact HJ.out _ _ _ HJ1.out ((KB.alloc M wr _).weak _)⟩, ⟨HK1.out.step (KB.alloc M wr _)⟩⟩
      case measure => simp [intOf]; omega
   ·rw [Bool.not_eq_true] at hall
    have hall2 : (lf 0 == false && (lf 1 == false && (lf 2 == false && (lf 3 == false && (lf 4 == false && (lf 5 == false && (lf 6 == false && (lf 7 == false)))))))) = false := by simpa using hall
    cases hv1 : lf j.one
    ·cases hv2 : lf j.two
     ·by_cases hk1 : j.one = key
      ·have hk1b : ((j.one : Int) == (key : Int)) = true := by rw [hk1]; exact beq_self_eq_true _
       have hk1c : (j.one == key) = true := by rw [hk1]; exact beq_self_eq_true _
       have hk1d : decide (j.one = key) = true := decide_eq_true hk1
       have hk2b : ((j.two : Int) == (key : Int)) = false := beq_eq_false_iff_ne.2 (by omega)
       have hk2c : (j.two == key) = false := beq_eq_false_iff_ne.2 (by omega)
       have hk2d : decide (j.two = key) = false := decide_eq_false (by omega)
       have hk2 : ¬ j.two = key := by omega
       have HN1 := zh (show nbrs [j] lf key = [(j.two, j)] by rw [nbrs_one, hv1, hv2]; simp [nbr1, hk1, hk2])
       clear hk1 hk2
       obtain ⟨fn, tmps, assign, body, hy, hR⟩ := yield_any' 8 (HY.out (nbrs (js.take i) lf key) (j.two, j) (wr.alloc (.cells #[.int .i64 (j.one : Int), .int .i64 (j.two : Int), .int .i64 (kindV j), .int .i64 j.lo, .int .i64 j.hi] 80)) ⟨ho2, HOK.out⟩ dQ6 (HJ.out _ _ _ HJ1.out ((KB.alloc M wr _).weak _)))
       dsimp only [encO] at hy
       have hR' := zh hR
       clear hR
       gi_wp2
       refine hR'.out.mono ?_
       rintro e W3 (⟨rfl, hJ4, hk4⟩ | ⟨rfl, hJx4, hk4⟩)
       ·have HJ4 := zh hJ4
        have HK4 := zh ((HK1.out.step (KB.alloc M wr (.cells #[.int .i64 (j.one : Int), .int .i64 (j.two : Int), .int .i64 (kindV j), .int .i64 j.lo, .int .i64 j.hi] 80))).trans hk4)
        have hwr := HK1.out.size
        have E0 := hk4.at Dx.out (.inr hwr) hDm
        have E1 := hk4.at C1x.out (.inl hSB1) hB1m
        have v0 : W3.cell? ⟨B1, 0, none⟩ = some (.int .i64 (key : Int)) := (blk_cell E1 0).trans rfl
        have w0 : W3.cell? ⟨wr.heap.size, 0, none⟩ = some (.int .i64 (j.one : Int)) := (blk_cell E0 0).trans rfl
        have w1 : W3.cell? ⟨wr.heap.size, 1, none⟩ = some (.int .i64 (j.two : Int)) := (blk_cell E0 1).trans rfl
        have w2 : W3.cell? ⟨wr.heap.size, 2, none⟩ = some (.int .i64 (kindV j)) := (blk_cell E0 2).trans rfl
        have w3 : W3.cell? ⟨wr.heap.size, 3, none⟩ = some (.int .i64 j.lo) := (blk_cell E0 3).trans rfl
        have w4 : W3.cell? ⟨wr.heap.size, 4, none⟩ = some (.int .i64 j.hi) := (blk_cell E0 4).trans rfl
        clear hJ4 hk4 E0 E1 hy
        gi_wp2
        refine ⟨fun _ h_ => (by cases h_), ?_⟩
        gi_wp2
        go_roundw
        case rel => exact ⟨i + 1, by omega, by go_num, ⟨by rw [HSN.out, HN1.out]; exact HJ4.out⟩, HK4⟩
        case measure => simp [intOf]; omega
       ·have HJx4 := zh hJx4
        have hwr := HK1.out.size
        have E0 := hk4.at Dx.out (.inr hwr) hDm
        have E1 := hk4.at C1x.out (.inl hSB1) hB1m
        have v0 : W3.cell? ⟨B1, 0, none⟩ = some (.int .i64 (key : Int)) := (blk_cell E1 0).trans rfl
        have w0 : W3.cell? ⟨wr.heap.size, 0, none⟩ = some (.int .i64 (j.one : Int)) := (blk_cell E0 0).trans rfl
        have w1 : W3.cell? ⟨wr.heap.size, 1, none⟩ = some (.int .i64 (j.two : Int)) := (blk_cell E0 1).trans rfl
        have w2 : W3.cell? ⟨wr.heap.size, 2, none⟩ = some (.int .i64 (kindV j)) := (blk_cell E0 2).trans rfl
        have w3 : W3.cell? ⟨wr.heap.size, 3, none⟩ = some (.int .i64 j.lo) := (blk_cell E0 3).trans rfl
        have w4 : W3.cell? ⟨wr.heap.size, 4, none⟩ = some (.int .i64 j.hi) := (blk_cell E0 4).trans rfl
        clear hJx4 hk4 E0 E1 hy
        gi_wp2
        all_goals (try (exfalso; have hq : ∃ b, some undef = some (Value.bool b) := ⟨_, by assumption⟩; obtain ⟨b_, hq⟩ := hq; cases hq; done))
        refine ⟨fun _ h_ => (by cases h_), ?_⟩
        gi_wp2
        refine bodyPost_ret (results_none rfl _ _ _) rfl ?_
        exact ⟨⟨_, rfl⟩, .inr ⟨_, by rw [← HN1.out, ← HSN.out]; exact HPR.out, HJx4.out⟩⟩
      ·have hk1b : ((j.one : Int) == (key : Int)) = false := beq_eq_false_iff_ne.2 (by omega)
       have hk1c : (j.one == key) = false := beq_eq_false_iff_ne.2 (by omega)
       have hk1d : decide (j.one = key) = false := decide_eq_false (by omega)
       by_cases hk2 : j.two = key
       ·have hk2b : ((j.two : Int) == (key : Int)) = true := by rw [hk2]; exact beq_self_eq_true _
        have hk2c : (j.two == key) = true := by rw [hk2]; exact beq_self_eq_true _
        have hk2d : decide (j.two = key) = true := decide_eq_true hk2
        have HN1 := zh (show nbrs [j] lf key = [(j.one, j)] by rw [nbrs_one, hv1, hv2]; simp [nbr1, hk1, hk2])
        clear hk1 hk2
        obtain ⟨fn, tmps, assign, body, hy, hR⟩ := yield_any' 8 (HY.out (nbrs (js.take i) lf key) (j.one, j) (wr.alloc (.cells #[.int .i64 (j.one : Int), .int .i64 (j.two : Int), .int .i64 (kindV j), .int .i64 j.lo, .int .i64 j.hi] 80)) ⟨ho1, HOK.out⟩ dQ6 (HJ.out _ _ _ HJ1.out ((KB.alloc M wr _).weak _)))
        dsimp only [encO] at hy
        have hR' := zh hR
        clear hR
        gi_wp2
        refine ⟨fun _ h_ => (by cases h_), ?_⟩
        gi_wp2
        refine hR'.out.mono ?_
        rintro e W3 (⟨rfl, hJ4, hk4⟩ | ⟨rfl, hJx4, hk4⟩)
        ·have HJ4 := zh hJ4
         have HK4 := zh ((HK1.out.step (KB.alloc M wr (.cells #[.int .i64 (j.one : Int), .int .i64 (j.two : Int), .int .i64 (kindV j), .int .i64 j.lo, .int .i64 j.hi] 80))).trans hk4)
         have hwr := HK1.out.size
         have E0 := hk4.at Dx.out (.inr hwr) hDm
         have E1 := hk4.at C1x.out (.inl hSB1) hB1m
         have v0 : W3.cell? ⟨B1, 0, none⟩ = some (.int .i64 (key : Int)) := (blk_cell E1 0).trans rfl
         have w0 : W3.cell? ⟨wr.heap.size, 0, none⟩ = some (.int .i64 (j.one : Int)) := (blk_cell E0 0).trans rfl
         have w1 : W3.cell? ⟨wr.heap.size, 1, none⟩ = some (.int .i64 (j.two : Int)) := (blk_cell E0 1).trans rfl
         have w2 : W3.cell? ⟨wr.heap.size, 2, none⟩ = some (.int .i64 (kindV j)) := (blk_cell E0 2).trans rfl
         have w3 : W3.cell? ⟨wr.heap.size, 3, none⟩ = some (.int .i64 j.lo) := (blk_cell E0 3).trans rfl
         have w4 : W3.cell? ⟨wr.heap.size, 4, none⟩ = some (.int .i64 j.hi) := (blk_cell E0 4).trans rfl
         clear hJ4 hk4 E0 E1 hy
         gi_wp2
         go_roundw
         case rel => exact ⟨i + 1, by omega, by go_num, ⟨by rw [HSN.out, HN1.out]; exact HJ4.out⟩, HK4⟩
         case measure => simp [intOf]; omega
        ·have HJx4 := zh hJx4
         have hwr := HK1.out.size
         have E0 := hk4.at Dx.out (.inr hwr) hDm
         have E1 := hk4.at C1x.out (.inl hSB1) hB1m
         have v0 : W3.cell? ⟨B1, 0, none⟩ = some (.int .i64 (key : Int)) := (blk_cell E1 0).trans rfl
         have w0 : W3.cell? ⟨wr.heap.size, 0, none⟩ = some (.int .i64 (j.one : Int)) := (blk_cell E0 0).trans rfl
         have w1 : W3.cell? ⟨wr.heap.size, 1, none⟩ = some (.int .i64 (j.two : Int)) := (blk_cell E0 1).trans rfl
         have w2 : W3.cell? ⟨wr.heap.size, 2, none⟩ = some (.int .i64 (kindV j)) := (blk_cell E0 2).trans rfl
         have w3 : W3.cell? ⟨wr.heap.size, 3, none⟩ = some (.int .i64 j.lo) := (blk_cell E0 3).trans rfl
         have w4 : W3.cell? ⟨wr.heap.size, 4, none⟩ = some (.int .i64 j.hi) := (blk_cell E0 4).trans rfl
         clear hJx4 hk4 E0 E1 hy
         gi_wp2
         refine bodyPost_ret (results_none rfl _ _ _) rfl ?_
         exact ⟨⟨_, rfl⟩, .inr ⟨_, by rw [← HN1.out, ← HSN.out]; exact HPR.out, HJx4.out⟩⟩
       ·have hk2b : ((j.two : Int) == (key : Int)) = false := beq_eq_false_iff_ne.2 (by omega)
        have hk2c : (j.two == key) = false := beq_eq_false_iff_ne.2 (by omega)
        have hk2d : decide (j.two = key) = false := decide_eq_false (by omega)
        gi_wp2
        refine ⟨fun _ h_ => (by cases h_), ?_⟩
        gi_wp2
        go_roundw
        case rel => exact ⟨i + 1, by omega, by go_num, ⟨by rw [HSN.out, show nbrs [j] lf key = [] by rw [nbrs_one, hv1, hv2]; simp [nbr1, hk1, hk2], List.append_nil]; exact HJ.out _ _ _ HJ1.out ((KB.alloc M wr _).weak _)⟩, ⟨HK1.out.step (KB.alloc M wr _)⟩⟩
        case measure => simp [intOf]; omega
     ·gi_wp2
      go_roundw
      case rel => exact ⟨i + 1, by omega, by go_num, ⟨by rw [HSN.out, show nbrs [j] lf key = [] by rw [nbrs_one, hv1, hv2]; rfl, List.append_nil]; exact HJ.out _ _ _ HJ1.out ((KB.alloc M wr _).weak _)⟩, ⟨HK1.out.step (KB.alloc M wr _)⟩⟩
      case measure => simp [intOf]; omega
    ·gi_wp2
     go_roundw
     case rel => exact ⟨i + 1, by omega, by go_num, ⟨by rw [HSN.out, show nbrs [j] lf key = [] by rw [nbrs_one, hv1]; rfl, List.append_nil]; exact HJ.out _ _ _ HJ1.out ((KB.alloc M wr _).weak _)⟩, ⟨HK1.out.step (KB.alloc M wr _)⟩⟩
     case measure => simp [intOf]; omega
  ·obtain rfl : i = js.length := by omega
   gi_wp2
   go_end0
   exact ⟨⟨_, rfl⟩, .inl (by rw [List.take_length] at HJ1; exact HJ1.out)⟩
end Go.Proofs.YtgehkojccmkggaaDoor.K
end
section
namespace Go.Proofs.YtgehkojccmkggaaDoor.K
open Go.RowKit Go.Shelf Go.Proofs.YtgehkojccmkggaaDoorW.PrintWords Go.Proofs.YtgehkojccmkggaaDoorW.PrintLast Go.Proofs.YtgehkojccmkggaaDoorW.PrintMore Go.Proofs.YtgehkojccmkggaaDoor.H Tune
set_option linter.unusedVariables false
set_option linter.unusedSimpArgs false
attribute [local go_sem] Oper.semAt_some
def bs (l : List Bool) : Array Value := (l.map Value.bool).toArray
theorem bs_at {w : World} {g : Nat} {t : TypeId} {l : List Bool} (h : w.heap[g]? = some (.cells (bs l) t (0, 0))) (x : Nat) (hx : x < l.length) : w.cell? ⟨g, x, none⟩ = some (.bool (l.getD x false)) := by
 rw [blk_cell h x]
 unfold bs
 simp [hx]
theorem bs_set {w : World} {g : Nat} {t : TypeId} {l : List Bool} (h : w.heap[g]? = some (.cells (bs l) t (0, 0))) (x : Nat) (b : Bool) : (w.setCell ⟨g, x, none⟩ (.bool b)).heap[g]? = some (.cells (bs (l.set x b)) t (0, 0)) := by
 rw [blk_set h]
 unfold bs
 simp [List.map_set]
def foldM (js : List J) (lf : Nat → Bool) (f : Nat) (pre : List (Nat × J)) (m0 : List Bool) : List Bool := pre.foldl (fun m oj => if m.getD oj.1 false then m else markF js lf f oj.1 m) m0
theorem foldM_snoc (js : List J) (lf : Nat → Bool) (f : Nat) (pre : List (Nat × J)) (oj : Nat × J) (m0 : List Bool) : foldM js lf f (pre ++ [oj]) m0 = if (foldM js lf f pre m0).getD oj.1 false then foldM js lf f pre m0 else markF js lf f oj.1 (foldM js lf f pre m0) := by
 unfold foldM
 rw [List.foldl_append]
 rfl
theorem foldM_mono (js : List J) (lf : Nat → Bool) (f : Nat) (y : Nat) : ∀ (pre : List (Nat × J)) (m0 : List Bool), m0.getD y false = true → (foldM js lf f pre m0).getD y false = true
 | [], _, h => h
 | oj :: pre, m0, h => by
  unfold foldM
  rw [List.foldl_cons]
  refine foldM_mono js lf f y pre _ ?_
  split
  ·exact h
  ·exact markF_mono f oj.1 m0 y h
theorem foldM_length (js : List J) (lf : Nat → Bool) (f : Nat) : ∀ (pre : List (Nat × J)) (m0 : List Bool), (foldM js lf f pre m0).length = m0.length
 | [], _ => rfl
 | oj :: pre, m0 => by
  unfold foldM
  rw [List.foldl_cons]
  refine (foldM_length js lf f pre _).trans ?_
  split
  ·rfl
  ·exact markF_length f oj.1 m0
theorem markF_succ (js : List J) (lf : Nat → Bool) (f x : Nat) (mt : List Bool) : markF js lf (f + 1) x mt = foldM js lf f (nbrs js lf x) (mt.set x true) := rfl
def AxIs {α : Type} (Fr : α → Act) (x : α) (a' : Act) (_ : World) : Prop := a' = Fr x
set_option maxRecDepth 100000 in
set_option maxHeartbeats 4000000 in
theorem mark_calls (vH vS vP : Value) (b0 b1 : Int) (lf : Nat → Bool) (e0 e1 : Int) (A3 : Option Addr) (c3 : Nat) (js : List J) (n : Nat) (par : Nat → Int) (rank : Nat → Nat) {m : Nat} (M : Mm m) (g : Nat) (w0 : World) (hn : n ≤ 8)
  (hm0 : w0.heap.size ≤ m) (hg0 : w0.heap.size ≤ g) (hgm : g ≠ m) (hA : Kd.C k80 w0 A3 js.length (js.map ofJ)) (hjs : ∀ (i : Nat) (hi : i < js.length), OkJ js[i] ∧ js[i].one < n ∧ js[i].two < n ∧ js[i].one ≠ js[i].two)
  (hch : ∀ x, x < n → ∀ oj ∈ nbrs js lf x, (oj.1 : Int) ≠ par x → par oj.1 = x ∧ rank oj.1 < rank x) :
  ∀ (f x : Nat) (mt : List Bool), rank x < f → x < n → mt.length = 8 → (0 ≤ par x → mt.getD (par x).toNat false = true) → ∀ W, Below w0.heap.size w0 W → M.P W → W.heap[g]? = some (.cells (bs mt) 75 (0, 0)) →
   CallsIn Fence.wide 9 Tryd.prog 83 #[.agg #[vH, vS, vP, .int .i64 b0, .int .i64 b1, .slice A3 js.length c3, .bool (lf 0), .bool (lf 1), .bool (lf 2), .bool (lf 3), .bool (lf 4), .bool (lf 5), .bool (lf 6), .bool (lf 7), .int .i64 e0, .int .i64 e1], .int .i64 (x : Int), .pointer (some ⟨g, 0, none⟩)] W fun e W' => (∃ v, e = .returned v) ∧ KR M (fun i => i ≠ g) W W' ∧ W'.heap[g]? = some (.cells (bs (markF js lf f x mt)) 75 (0, 0))
 | 0, _, _, h, _, _, _, _, _, _, _ => absurd h (Nat.not_lt_zero _)
 | f + 1, x, mt, hr, hx, hml, hpm, W, hb0, hM, hg => by
  have IH := zh (mark_calls vH vS vP b0 b1 lf e0 e1 A3 c3 js n par rank M g w0 hn hm0 hg0 hgm hA hjs hch f)
  have hu77 := Tryd.underlying77
  have hu80 := Tryd.underlying80
  have hu75 := Tryd.underlying75
  have hu118 := Tryd.underlying118
  have HCH := zh (hch x hx)
  have HLT := zh (show ∀ oj ∈ nbrs js lf x, oj.1 < n from fun oj h => by
   obtain ⟨o, j⟩ := oj
   obtain ⟨h1, _, _, h4⟩ := mem_nbrs.1 h
   obtain ⟨i, hi, rfl⟩ := List.mem_iff_getElem.1 h1
   obtain ⟨_, g1, g2, _⟩ := hjs i hi
   rcases h4 with ⟨_, h4⟩ | ⟨_, h4⟩
   ·rw [← h4]; exact g2
   ·rw [← h4]; exact g1)
  have HPM := zh hpm
  have HA := zh hA
  have HJS := zh hjs
  have HB0 := zh hb0
  have HM := zh hM
  have HG := zh hg
  have hmW := M.lt hM
  have hgW := blk_lt hg
  have hw0 := hb0.size
  have G1 := zh (blk_alloc (blk_alloc hg (.cells #[vH, vS, vP, .int .i64 b0, .int .i64 b1, .slice A3 js.length c3, .bool (lf 0), .bool (lf 1), .bool (lf 2), .bool (lf 3), .bool (lf 4), .bool (lf 5), .bool (lf 6), .bool (lf 7), .int .i64 e0, .int .i64 e1] 77)) (.cells #[.pointer (some ⟨g, 0, none⟩)] 118))
  have q0 : ((W.alloc (.cells #[vH, vS, vP, .int .i64 b0, .int .i64 b1, .slice A3 js.length c3, .bool (lf 0), .bool (lf 1), .bool (lf 2), .bool (lf 3), .bool (lf 4), .bool (lf 5), .bool (lf 6), .bool (lf 7), .int .i64 e0, .int .i64 e1] 77)).alloc (.cells #[.pointer (some ⟨g, 0, none⟩)] 118)).cell? ⟨g, x, none⟩ = some (.bool (mt.getD x false)) := bs_at G1.out x (by omega)
  have q1 : ((W.alloc (.cells #[vH, vS, vP, .int .i64 b0, .int .i64 b1, .slice A3 js.length c3, .bool (lf 0), .bool (lf 1), .bool (lf 2), .bool (lf 3), .bool (lf 4), .bool (lf 5), .bool (lf 6), .bool (lf 7), .int .i64 e0, .int .i64 e1] 77)).alloc (.cells #[.pointer (some ⟨g, 0, none⟩)] 118)).frozen? ⟨g, x, none⟩ = false := blk_frozen G1.out x
  clear hpm hA hjs hb0 hM hg hch
  refine callsIn_of_wp_marks Tryd.func83 rfl trivial ?_ rfl
  simp only [Tryd.ntmps83, List.size_toArray, List.length_cons, List.length_nil, Nat.reduceAdd, Nat.reduceSub, Array.replicate_succ, Array.replicate_zero, List.push_toArray, List.append_toArray, List.nil_append, List.cons_append]
  gi_wp2_with (refine ⟨trivial, ?_⟩; gi_at_call 81; refine (callsIn_any _ (joined_calls vH vS vP (.slice A3 js.length c3) b0 b1 lf e0 e1 x _)).mono ?_; rintro e w' ⟨rfl, rfl⟩)
  clear q0 q1 G1
  have G0 := zh (bs_set HG.out x true)
  have KS := zh ((KR.refl M (fun i => i ≠ g) W).set (g := g) (.inl (fun h => h rfl)) (Ne.symm hgm) x (.bool true))
  have BS := zh (KS.out.base HB0.out (fun i hi => by omega) hm0)
  have hsW : (W.setCell ⟨g, x, none⟩ (.bool true)).heap.size = W.heap.size := by simp
  obtain ⟨W1, hW1⟩ : ∃ W1, W.setCell ⟨g, x, none⟩ (.bool true) = W1 := ⟨_, rfl⟩
  simp only [hW1] at G0 KS BS hsW ⊢
  clear hW1
  have K1 := zh ((((KB.alloc M W1 (.cells #[vH, vS, vP, .int .i64 b0, .int .i64 b1, .slice A3 js.length c3, .bool (lf 0), .bool (lf 1), .bool (lf 2), .bool (lf 3), .bool (lf 4), .bool (lf 5), .bool (lf 6), .bool (lf 7), .int .i64 e0, .int .i64 e1] 77)).trans (KB.alloc M (W1.alloc (.cells #[vH, vS, vP, .int .i64 b0, .int .i64 b1, .slice A3 js.length c3, .bool (lf 0), .bool (lf 1), .bool (lf 2), .bool (lf 3), .bool (lf 4), .bool (lf 5), .bool (lf 6), .bool (lf 7), .int .i64 e0, .int .i64 e1] 77)) (.cells #[.pointer (some ⟨g, 0, none⟩)] 118))).trans (KB.alloc M ((W1.alloc (.cells #[vH, vS, vP, .int .i64 b0, .int .i64 b1, .slice A3 js.length c3, .bool (lf 0), .bool (lf 1), .bool (lf 2), .bool (lf 3), .bool (lf 4), .bool (lf 5), .bool (lf 6), .bool (lf 7), .int .i64 e0, .int .i64 e1] 77)).alloc (.cells #[.pointer (some ⟨g, 0, none⟩)] 118)) (.cells #[vH, vS, vP, .int .i64 b0, .int .i64 b1, .slice A3 js.length c3, .bool (lf 0), .bool (lf 1), .bool (lf 2), .bool (lf 3), .bool (lf 4), .bool (lf 5), .bool (lf 6), .bool (lf 7), .int .i64 e0, .int .i64 e1] 77))).trans (KB.alloc M (((W1.alloc (.cells #[vH, vS, vP, .int .i64 b0, .int .i64 b1, .slice A3 js.length c3, .bool (lf 0), .bool (lf 1), .bool (lf 2), .bool (lf 3), .bool (lf 4), .bool (lf 5), .bool (lf 6), .bool (lf 7), .int .i64 e0, .int .i64 e1] 77)).alloc (.cells #[.pointer (some ⟨g, 0, none⟩)] 118)).alloc (.cells #[vH, vS, vP, .int .i64 b0, .int .i64 b1, .slice A3 js.length c3, .bool (lf 0), .bool (lf 1), .bool (lf 2), .bool (lf 3), .bool (lf 4), .bool (lf 5), .bool (lf 6), .bool (lf 7), .int .i64 e0, .int .i64 e1] 77)) (.cells #[.int .i64 (x : Int)] 3)))
  have P0 := zh (blk_alloc (blk_alloc (blk_alloc (alloc_at W1 (.cells #[vH, vS, vP, .int .i64 b0, .int .i64 b1, .slice A3 js.length c3, .bool (lf 0), .bool (lf 1), .bool (lf 2), .bool (lf 3), .bool (lf 4), .bool (lf 5), .bool (lf 6), .bool (lf 7), .int .i64 e0, .int .i64 e1] 77) W.heap.size hsW.symm) (.cells #[.pointer (some ⟨g, 0, none⟩)] 118)) (.cells #[vH, vS, vP, .int .i64 b0, .int .i64 b1, .slice A3 js.length c3, .bool (lf 0), .bool (lf 1), .bool (lf 2), .bool (lf 3), .bool (lf 4), .bool (lf 5), .bool (lf 6), .bool (lf 7), .int .i64 e0, .int .i64 e1] 77)) (.cells #[.int .i64 (x : Int)] 3))
  have P1 := zh (blk_alloc (blk_alloc (alloc_at (W1.alloc (.cells #[vH, vS, vP, .int .i64 b0, .int .i64 b1, .slice A3 js.length c3, .bool (lf 0), .bool (lf 1), .bool (lf 2), .bool (lf 3), .bool (lf 4), .bool (lf 5), .bool (lf 6), .bool (lf 7), .int .i64 e0, .int .i64 e1] 77)) (.cells #[.pointer (some ⟨g, 0, none⟩)] 118) (W.heap.size + 1) (by simp [hsW])) (.cells #[vH, vS, vP, .int .i64 b0, .int .i64 b1, .slice A3 js.length c3, .bool (lf 0), .bool (lf 1), .bool (lf 2), .bool (lf 3), .bool (lf 4), .bool (lf 5), .bool (lf 6), .bool (lf 7), .int .i64 e0, .int .i64 e1] 77)) (.cells #[.int .i64 (x : Int)] 3))
  have P2 := zh (blk_alloc (alloc_at ((W1.alloc (.cells #[vH, vS, vP, .int .i64 b0, .int .i64 b1, .slice A3 js.length c3, .bool (lf 0), .bool (lf 1), .bool (lf 2), .bool (lf 3), .bool (lf 4), .bool (lf 5), .bool (lf 6), .bool (lf 7), .int .i64 e0, .int .i64 e1] 77)).alloc (.cells #[.pointer (some ⟨g, 0, none⟩)] 118)) (.cells #[vH, vS, vP, .int .i64 b0, .int .i64 b1, .slice A3 js.length c3, .bool (lf 0), .bool (lf 1), .bool (lf 2), .bool (lf 3), .bool (lf 4), .bool (lf 5), .bool (lf 6), .bool (lf 7), .int .i64 e0, .int .i64 e1] 77) (W.heap.size + 1 + 1) (by simp [hsW])) (.cells #[.int .i64 (x : Int)] 3))
  have P3 := zh (alloc_at (((W1.alloc (.cells #[vH, vS, vP, .int .i64 b0, .int .i64 b1, .slice A3 js.length c3, .bool (lf 0), .bool (lf 1), .bool (lf 2), .bool (lf 3), .bool (lf 4), .bool (lf 5), .bool (lf 6), .bool (lf 7), .int .i64 e0, .int .i64 e1] 77)).alloc (.cells #[.pointer (some ⟨g, 0, none⟩)] 118)).alloc (.cells #[vH, vS, vP, .int .i64 b0, .int .i64 b1, .slice A3 js.length c3, .bool (lf 0), .bool (lf 1), .bool (lf 2), .bool (lf 3), .bool (lf 4), .bool (lf 5), .bool (lf 6), .bool (lf 7), .int .i64 e0, .int .i64 e1] 77)) (.cells #[.int .i64 (x : Int)] 3) (W.heap.size + 1 + 1 + 1) (by simp [hsW]))
  have hsz : ((((W1.alloc (.cells #[vH, vS, vP, .int .i64 b0, .int .i64 b1, .slice A3 js.length c3, .bool (lf 0), .bool (lf 1), .bool (lf 2), .bool (lf 3), .bool (lf 4), .bool (lf 5), .bool (lf 6), .bool (lf 7), .int .i64 e0, .int .i64 e1] 77)).alloc (.cells #[.pointer (some ⟨g, 0, none⟩)] 118)).alloc (.cells #[vH, vS, vP, .int .i64 b0, .int .i64 b1, .slice A3 js.length c3, .bool (lf 0), .bool (lf 1), .bool (lf 2), .bool (lf 3), .bool (lf 4), .bool (lf 5), .bool (lf 6), .bool (lf 7), .int .i64 e0, .int .i64 e1] 77)).alloc (.cells #[.int .i64 (x : Int)] 3)).heap.size = W.heap.size + 4 := by simp [hsW]
  obtain ⟨W0, hW0⟩ : ∃ W0, ((((W1.alloc (.cells #[vH, vS, vP, .int .i64 b0, .int .i64 b1, .slice A3 js.length c3, .bool (lf 0), .bool (lf 1), .bool (lf 2), .bool (lf 3), .bool (lf 4), .bool (lf 5), .bool (lf 6), .bool (lf 7), .int .i64 e0, .int .i64 e1] 77)).alloc (.cells #[.pointer (some ⟨g, 0, none⟩)] 118)).alloc (.cells #[vH, vS, vP, .int .i64 b0, .int .i64 b1, .slice A3 js.length c3, .bool (lf 0), .bool (lf 1), .bool (lf 2), .bool (lf 3), .bool (lf 4), .bool (lf 5), .bool (lf 6), .bool (lf 7), .int .i64 e0, .int .i64 e1] 77)).alloc (.cells #[.int .i64 (x : Int)] 3)) = W0 := ⟨_, rfl⟩
  simp only [hW0] at K1 P0 P1 P2 P3 hsz ⊢
  clear hW0
  have hsz1 : W.heap.size + 4 ≤ W0.heap.size := by omega
  have hsz2 : W0.heap.size ≤ W.heap.size + 4 := by omega
  have hsW1 : W1.heap.size ≤ W.heap.size := by omega
  clear hsz hsW
  have G2 := zh (K1.out.at G0.out hgm)
  have HMW := zh (K1.out.memo (KS.out.memo HM.out))
  have hmW0 := M.lt HMW.out
  have HBW := zh (K1.out.base BS.out hm0)
  have hlen : (mt.set x true).length = 8 := by simp [hml]
  have hx0 : (mt.set x true).getD x false = true := by simp [hml, show x < 8 by omega]
  have HX0 := zh hx0
  have HPM2 := zh (show ∀ (y : Nat), par x = (y : Int) → (mt.set x true).getD y false = true from fun y hy => by
   by_cases e : x = y
   ·rw [← e]; exact HX0.out
   ·have h := HPM.out (by omega)
    rw [hy, Int.toNat_natCast] at h
    rw [getD_set_other e]; exact h)
  clear hx0
  refine wpIn_range (n := 9) (by omega) (gf := 86) (lb := #[.pointer (some ⟨W.heap.size + 1 + 1, 0, none⟩), .pointer (some ⟨W.heap.size + 1 + 1 + 1, 0, none⟩)]) rfl (enters_of Tryd.func86 zk rfl)
   (joined_seq vH vS vP b0 b1 lf e0 e1 A3 c3 js x n M (W.heap.size + 1 + 1) (W.heap.size + 1 + 1 + 1) (fun i => i < W0.heap.size ∧ i ≠ g) w0 W0 hn HBW.out hm0 HA.out HJS.out P2.out P3.out ⟨by omega, by omega⟩ ⟨by omega, by omega⟩ (fun i hi => ⟨by omega, by omega⟩) (by omega) (by omega) hmW0) (fun i hi => hi.1) hmW0 (fun _ => rfl)
   (fun pre Wx => KR M (fun i => i < W0.heap.size ∧ i ≠ g) W0 Wx ∧ Wx.heap[g]? = some (.cells (bs (foldM js lf f pre (mt.set x true))) 75 (0, 0)))
   (fun _ _ _ => False)
   (fun s X Y h hk => ⟨h.1.weak hk (fun i hi _ => hi.1), hk.cells h.2 hgm⟩)
   (fun c s X Y h hk => h)
   ⟨KR.refl _ _ _, G2.out⟩
   (AxIs ?Fr)
   (fun x a' X Y h hk => h)
   ?assign ?body ?done ?stop
  case assign =>
   rintro l2 pre oj Wx K hI hK
   dsimp only [encO]
   gi_wp2
   refine hK _ _ (KeepsFrom.refl _ _) (KR.refl _ _ _) hI ?_
   unfold AxIs
   rfl
  case body =>
   rintro l2 pre ⟨o, jo⟩ a' Wx hl2 hok hpre ⟨hK1, hg1⟩ rfl
   have hmem : (o, jo) ∈ nbrs js lf x := by
    obtain ⟨t, ht⟩ := hpre
    rw [← ht]; simp
   have hon := HLT.out _ hmem
   dsimp only at hon ⊢
   have HK1 := zh hK1
   have HG1 := zh hg1
   have hlm : (foldM js lf f pre (mt.set x true)).length = 8 := by rw [foldM_length]; exact hlen
   have c0 := bs_at hg1 o (by omega)
   have P0x := zh (hK1.at P0.out ⟨by omega, by omega⟩ (by omega))
   have P1x := zh (hK1.at P1.out ⟨by omega, by omega⟩ (by omega))
   have p1 : Wx.cell? ⟨W.heap.size + 1, 0, none⟩ = some (.pointer (some ⟨g, 0, none⟩)) := vb P1x 0
   have HS := zh (foldM_snoc js lf f pre (o, jo) (mt.set x true))
   have HBx := zh (hK1.base HBW.out (fun i hi => ⟨by omega, by omega⟩) hm0)
   have HMx := zh (hK1.memo HMW.out)
   clear hK1 hg1
   cases hmo : (foldM js lf f pre (mt.set x true)).getD o false with
   | true =>
    rw [hmo] at c0
    have HMO := zh hmo
    clear hmo
    gi_wp2
    exact ⟨KeepsFrom.refl _ _, KR.refl _ _ _, HK1.out, by rw [HS.out, HMO.out]; exact HG1.out⟩
   | false =>
    rw [hmo] at c0
    have HMO := zh hmo
    have hnp : (o : Int) ≠ par x := fun e => by
     have h := foldM_mono js lf f o pre _ (HPM2.out o e.symm)
     rw [hmo] at h
     cases h
    obtain ⟨hpo, hro⟩ := HCH.out _ hmem hnp
    dsimp only at hpo hro
    have HPO := zh hpo
    clear hmo hpo
    have z0 : Wx.cell? ⟨W.heap.size, 0, none⟩ = some (vH) := vb P0x 0
    have z1 : Wx.cell? ⟨W.heap.size, 1, none⟩ = some (vS) := vb P0x 1
    have z2 : Wx.cell? ⟨W.heap.size, 2, none⟩ = some (vP) := vb P0x 2
    have z3 : Wx.cell? ⟨W.heap.size, 3, none⟩ = some (.int .i64 b0) := vb P0x 3
    have z4 : Wx.cell? ⟨W.heap.size, 4, none⟩ = some (.int .i64 b1) := vb P0x 4
    have z5 : Wx.cell? ⟨W.heap.size, 5, none⟩ = some (.slice A3 js.length c3) := vb P0x 5
    have z6 : Wx.cell? ⟨W.heap.size, 6, none⟩ = some (.bool (lf 0)) := vb P0x 6
    have z7 : Wx.cell? ⟨W.heap.size, 7, none⟩ = some (.bool (lf 1)) := vb P0x 7
    have z8 : Wx.cell? ⟨W.heap.size, 8, none⟩ = some (.bool (lf 2)) := vb P0x 8
    have z9 : Wx.cell? ⟨W.heap.size, 9, none⟩ = some (.bool (lf 3)) := vb P0x 9
    have z10 : Wx.cell? ⟨W.heap.size, 10, none⟩ = some (.bool (lf 4)) := vb P0x 10
    have z11 : Wx.cell? ⟨W.heap.size, 11, none⟩ = some (.bool (lf 5)) := vb P0x 11
    have z12 : Wx.cell? ⟨W.heap.size, 12, none⟩ = some (.bool (lf 6)) := vb P0x 12
    have z13 : Wx.cell? ⟨W.heap.size, 13, none⟩ = some (.bool (lf 7)) := vb P0x 13
    have z14 : Wx.cell? ⟨W.heap.size, 14, none⟩ = some (.int .i64 e0) := vb P0x 14
    have z15 : Wx.cell? ⟨W.heap.size, 15, none⟩ = some (.int .i64 e1) := vb P0x 15
    gi_wp2_with (refine ⟨trivial, ?_⟩; gi_at_call 83; refine (CallsIn.inRound l2 (callsIn_any _ (IH.out o (foldM js lf f pre (mt.set x true)) (by omega) hon hlm (fun _ => by rw [HPO.out, Int.toNat_natCast]; exact foldM_mono js lf f x pre _ HX0.out) Wx HBx.out HMx.out HG1.out))).mono ?_; rintro e w5 ⟨⟨v, rfl⟩, hk5, hg5⟩; have HK5 := zh hk5; have HG5 := zh hg5; clear hk5 hg5)
    exact ⟨HK5.out.keeps (fun i hi _ => by omega) (by omega), HK5.out.mono (fun i hi _ => by rcases hi with hi | hi; exact hi.2; omega), HK1.out.trans (HK5.out.mono (fun i hi _ => hi.2)), by rw [HS.out, HMO.out]; exact HG5.out⟩
  case done =>
   rintro D Wx hD ⟨hK1, hg1⟩ hKd
   have HK1 := zh hK1
   have HG1 := zh hg1
   have HD := zh hKd
   clear hK1 hg1 hKd
   gi_wp2
   refine ⟨by simp, .inl ⟨_, _, rfl, run_takeDeferred HD.out, ?_⟩⟩
   refine ⟨_, results_none rfl _ _ _, ⟨_, rfl⟩, ?_, ?_⟩
   ·exact ((KS.out.step K1.out).trans (HK1.out.mono (fun i hi hl => ⟨hl, hi⟩))).putObj D _ (.inr (by omega)) (by omega)
   ·rw [markF_succ]
    exact (World.putObj_heap_other (by rintro rfl; have := HD.out; rw [HG1.out] at this; cases this)).trans HG1.out
  case stop =>
   rintro D c pre Wx hD hpre h hKd
   exact h.elim
end Go.Proofs.YtgehkojccmkggaaDoor.K
end
section
namespace Go.Proofs.YtgehkojccmkggaaDoor.K
open Go.RowKit Go.Shelf Go.Proofs.YtgehkojccmkggaaDoorW.PrintWords Go.Proofs.YtgehkojccmkggaaDoorW.PrintLast Go.Proofs.YtgehkojccmkggaaDoorW.PrintMore
set_option linter.unusedVariables false
set_option linter.unusedSimpArgs false
section
variable {P : Program} {b : Frame} {a : Act} {k : List Item} {cs : List Frame} {w : World} {Q : Exit → Act → World → Prop} {F : Fence} {n : Nat}
theorem stepR_scope {c : Code} : step P (lone (b.atR a (.code (.scope c) :: k)) cs w) = .next (lone (b.atR a (.code c :: .inScope c :: k)) cs w) :=
 step_lone_go (by simp [stepG, stepG.exec, Frame.atR])
theorem stepR_inScope {c : Code} : step P (lone (b.atR a (.inScope c :: k)) cs w) = .next (lone (b.atR a k) cs w) :=
 step_lone_go (by simp [stepG, stepG.exec, Frame.atR])
theorem wpIn_scope_straight {c : Code} (h : c.wpIn F n P (Exit.noGoto Q) a w) : (Code.scope c).wpIn F n P Q a w := by
 intro b k cs hro hb hr
 have h0 : (lone (b.atR a (.code (.scope c) :: k)) cs w).fenced P F := fenced_calm hb hr rfl
 obtain ⟨e, a₁, w₁, hq, harr⟩ := h b (.inScope c :: k) cs hro hb hr
 cases e with
 | normal => exact ⟨.normal, a₁, w₁, hq, .head h0 stepR_scope (StepsIn.trans harr (.one (fenced_calm hb hr rfl) stepR_inScope))⟩
 | exit id => exact ⟨.exit id, a₁, w₁, hq, fun k' hk => .head h0 stepR_scope (harr.1 k' (by simp [exitTo, hk])), fun hs hk => by
   obtain ⟨k₁, h1, h2⟩ := harr.2 hs (by simp [exitTo, hk])
   exact ⟨k₁, h1, .head h0 stepR_scope h2⟩⟩
 | goto l => exact hq.elim
 | ret => exact ⟨_, a₁, w₁, hq, .of_steps (.one h0 stepR_scope) harr⟩
 | panic ch => exact ⟨_, a₁, w₁, hq, .of_steps (.one h0 stepR_scope) harr⟩
 | outgrown => exact ⟨_, a₁, w₁, hq, .of_steps (.one h0 stepR_scope) harr⟩
end
section
variable {P : Program} {k : TypeId} {α β : Type} [DecidableEq α] {E : KeyEnc P k α} {V : β → Value}
def MapOpt (E : KeyEnc P k α) (V : β → Value) (w : World) (go : Option Nat) (kv : List (α × β)) : Prop := (go = none ∧ kv = []) ∨ ∃ m, go = some m ∧ MapIs E V w m kv
theorem MapOpt.lookup {w : World} {go : Option Nat} {kv : List (α × β)} {t e : TypeId} (h : MapOpt E V w go kv) (ht : P.underlying t = some (.map k e)) {z : Value} (hz : (zeroValue e).run P w = .ok z w) (key : α) (ok : Bool) :
  (Instr.lookup t (.map go) (E.enc key) ok).run P w = .ok (if ok then .tuple #[(kvGet V z kv key).1, .bool (kvGet V z kv key).2] else (kvGet V z kv key).1) w := by
 rcases h with ⟨rfl, rfl⟩ | ⟨m, rfl, h⟩
 ·have hf := findKey_run (E := E) (V := V) key w (es := []) (kv := []) rfl
  have hf2 : (Instr.findKey k (E.enc key) (#[] : Array MapEntry).toList).run P w = .ok none w := hf
  simp only [Instr.lookup, Sem.run_bind, run_underlying ht, Result.andThen_ok, Sem.run_pure, E.check, hf2]
  simp [kvGet, hz]
 ·exact h.lookup ht hz key ok
theorem MapOpt.below {w w' : World} {go : Option Nat} {kv : List (α × β)} (h : MapOpt E V w go kv) (hb : Below w.heap.size w w') : MapOpt E V w' go kv := by
 rcases h with h | ⟨m, h1, h2⟩
 ·exact .inl h
 ·exact .inr ⟨m, h1, h2.below hb⟩
section
variable {F : Fence} {nF : Nat} {w : World} {go : Option Nat} {kv : List (α × β)} {t e : TypeId} {ops : Array Oper} {rest : List Oper} {o : Oper} {a : Act} {Q : Exit → Act → World → Prop}
theorem wpListIn_look_opt (E : KeyEnc P k α) (V : β → Value) (hg : o.guard = none) (mo x : Operand) (ok : Bool) (hop : o.op = Op.lookup t mo x ok) (ht : P.underlying t = some (.map k e)) (hm : a.eval mo = .map go)
  (h : MapOpt E V w go kv) (z : Value) (hz : (zeroValue e).run P w = .ok z w) (key : α) (hx : a.eval x = E.enc key)
  (hK : wpListIn F nF P ops Q rest (a.put o.dst (if ok then .tuple #[(kvGet V z kv key).1, .bool (kvGet V z kv key).2] else (kvGet V z kv key).1)) w) : wpListIn F nF P ops Q (o :: rest) a w := by
 refine wpListIn_plain hg fun K' hK' => ?_
 have hrun := h.lookup ht hz key ok
 unfold Oper.wpIn
 refine ⟨by simp [Oper.about, hop], ?_⟩
 rw [Oper.semAt_plain F _ _ (by rw [hop]; intro c hc'; cases hc')]
 simp only [execOp, hop, hm, hx, Sem.run_bind, hrun, Result.andThen_ok, Sem.run_pure, Oper.uponIn_value]
 exact hK' _ _ hK
end
end
end Go.Proofs.YtgehkojccmkggaaDoor.K
end
section
namespace Go.Proofs.YtgehkojccmkggaaDoor.K
open Go.RowKit Go.Shelf Go.Proofs.YtgehkojccmkggaaDoorW.PrintWords Go.Proofs.YtgehkojccmkggaaDoorW.PrintLast Go.Proofs.YtgehkojccmkggaaDoorW.PrintMore Go.Proofs.YtgehkojccmkggaaDoor.H Tune
set_option linter.unusedVariables false
set_option linter.unusedSimpArgs false
attribute [local go_sem] Oper.semAt_some
theorem eqA111 (d : Nat) (w : World) (x0 y0 : Int) (x1 y1 : Int) :
  (Op.equalIn (d + 2) 111 (.agg #[.int .i64 x0, .int .i64 x1]) (.agg #[.int .i64 y0, .int .i64 y1])).run Tryd.prog w = .ok (x0 == y0 && (x1 == y1)) w := by
 refine eqA_of Tryd.underlying111 zk ?_
 refine eqf_cons (by rfl) (by go_simp; rfl) (by go_simp; rfl) (by go_simp) ?_
 exact eqf_last (by rfl) (by go_simp; rfl) (by go_simp; rfl) (by go_simp)
theorem check3 (em : Bool) (w : World) (a : Int) (n : Nat) : (Instr.checkKey em (n + 1) 3 (.int .i64 a)).run Tryd.prog w = .ok () w := by
 have h3 := Tryd.underlying3
 simp [Instr.checkKey, Sem.run_bind, run_underlying h3]
theorem check111 (em : Bool) (w : World) (x0 x1 : Int) : (Instr.checkKey em 10000 111 (.agg #[.int .i64 x0, .int .i64 x1])).run Tryd.prog w = .ok () w := by
 have hu := Tryd.underlying111
 show (Instr.checkKey em (9998 + 1 + 1) 111 _).run Tryd.prog w = _
 unfold Instr.checkKey
 simp only [Sem.run_bind, run_underlying hu, Result.andThen_ok]
 have h9 : ∀ (a : Int) (w : World), (Instr.checkKey em 9999 3 (.int .i64 a)).run Tryd.prog w = .ok () w := fun a w => check3 em w a 9998
 have p0 : (part 3 #[Value.int IntKind.i64 x0, Value.int IntKind.i64 x1] 0).run Tryd.prog w = .ok (.int .i64 x0) w := by go_simp
 have p1 : (part 3 #[Value.int IntKind.i64 x0, Value.int IntKind.i64 x1] 1).run Tryd.prog w = .ok (.int .i64 x1) w := by go_simp
 simp [Sem.run_bind, p0, p1, h9]
def E111 : KeyEnc Tryd.prog 111 (Int × Int) where
 enc p := .agg #[.int .i64 p.1, .int .i64 p.2]
 eq a b w := by
  refine (eqA111 9998 w a.1 b.1 a.2 b.2).trans ?_
  congr 1
  rcases a with ⟨a1, a2⟩
  rcases b with ⟨b1, b2⟩
  by_cases h1 : a1 = b1 <;> by_cases h2 : a2 = b2 <;> simp [h1, h2]
 check em a w := check111 em w a.1 a.2
 bits a := by simp [Instr.sameBits]
 now a b := ⟨_, Tryd.underlying111, .inl rfl⟩
def E3 : KeyEnc Tryd.prog 3 Int where
 enc p := .int .i64 p
 eq a b w := by
  have h3 := Tryd.underlying3
  have h : (Op.equalIn (9999 + 1) 3 (.int .i64 a) (.int .i64 b)).run Tryd.prog w = .ok (a == b) w := by go_simp
  refine h.trans ?_
  rw [beq_dec]
 check em a w := check3 em w a 9999
 bits a := by simp [Instr.sameBits]
 now a b := ⟨_, Tryd.underlying3, .inr (by simp [Instr.sameNow, beq_dec])⟩
theorem zero3 (w : World) : (zeroValue 3).run Tryd.prog w = .ok (.int .i64 0) w := by
 obtain ⟨i, hi, hz, _⟩ := info_parts info3
 simp [zeroValue, typeInfo, Sem.run_bind, hi, hz]
theorem zero4 (w : World) : (zeroValue 4).run Tryd.prog w = .ok (.bool false) w := by
 obtain ⟨i, hi, hz, _⟩ := info_parts info4
 simp [zeroValue, typeInfo, Sem.run_bind, hi, hz]
def memoM (canV : Nat → Int → Bool) (m : Nat) : Mm m where
 P W := ∃ kv : List ((Int × Int) × Bool), MapIs E111 Value.bool W m kv ∧ ∀ e ∈ kv, ∀ x : Nat, e.1.1 = (x : Int) → e.2 = canV x e.1.2
 move := fun {A B} ⟨kv, h1, h2⟩ e => ⟨kv, h1.move e, h2⟩
 lt := fun {A} ⟨kv, h1, _⟩ => h1.lt
def okG (gl : List (Int × Int)) (x : Nat) (p : Int) : Bool := match gl.find? (fun e => decide ((x : Int) = e.1)) with | none => true | some e => decide (e.2 = p)
def loH (hs : List S26) (x : Nat) : Int := (hs.getD x z26).f0
def hiH (hs : List S26) (x : Nat) : Int := (hs.getD x z26).f1
theorem H_at {w : World} {A : Option Addr} {hs : List S26} (h : Kd.C k26 w A hs.length hs) (x : Nat) (hx : x < hs.length) :
  ∃ ad, A = some ad ∧ w.cell? (ad.add (x * 2)) = some (.int .i64 (loH hs x)) ∧ w.cell? ⟨(ad.add (x * 2)).block, (ad.add (x * 2)).off + 1, none⟩ = some (.int .i64 (hiH hs x)) := by
 have h' := at_T26 h (x : Int) (by omega) (by omega)
 have e : rd_T26 hs (x : Int) = hs.getD x z26 := by unfold rd_T26; rw [Int.toNat_natCast]
 rw [e] at h'
 simp only [Int.toNat_natCast] at h'
 exact h'
structure CanW (A0 : Option Addr) (c0 : Nat) (hs : List S26) (vS vP : Value) (b0 b1 : Int) (lf : Nat → Bool) (e0 e1 : Int) (A3 : Option Addr) (c3 : Nat) (js : List J) (go : Option Nat) (m Bk Bg Bs Bf Bc : Nat) (w0 W : World) : Prop where
 base : Below w0.heap.size w0 W
 known : W.heap[Bk]? = some (.cells #[.map (some m)] 108 (0, 0))
 given : W.heap[Bg]? = some (.cells #[.map go] 99 (0, 0))
 set : W.heap[Bs]? = some (.cells #[.slice A0 hs.length c0, vS, vP, .int .i64 b0, .int .i64 b1, .slice A3 js.length c3, .bool (lf 0), .bool (lf 1), .bool (lf 2), .bool (lf 3), .bool (lf 4), .bool (lf 5), .bool (lf 6), .bool (lf 7), .int .i64 e0, .int .i64 e1] 77 (0, 0))
 fits : W.heap[Bf]? = some (.cells #[.func (.func 53) #[.agg #[.slice A0 hs.length c0, vS, vP, .int .i64 b0, .int .i64 b1, .slice A3 js.length c3, .bool (lf 0), .bool (lf 1), .bool (lf 2), .bool (lf 3), .bool (lf 4), .bool (lf 5), .bool (lf 6), .bool (lf 7), .int .i64 e0, .int .i64 e1]] #[]] 81 (0, 0))
 can : W.heap[Bc]? = some (.cells #[.func (.func 80) #[] #[.pointer (some ⟨Bk, 0, none⟩), .pointer (some ⟨Bg, 0, none⟩), .pointer (some ⟨Bs, 0, none⟩), .pointer (some ⟨Bf, 0, none⟩), .pointer (some ⟨Bc, 0, none⟩)]] 109 (0, 0))
structure CanS (A0 : Option Addr) (hs : List S26) (A3 : Option Addr) (js : List J) (go : Option Nat) (gl : List (Int × Int)) (m Bk Bg Bs Bf Bc : Nat) (w0 : World) : Prop where
 heard : Kd.C k26 w0 A0 hs.length hs
 joins : Kd.C k80 w0 A3 js.length (js.map ofJ)
 given : MapOpt E3 (Value.int .i64) w0 go gl
 glob : Glob w0
 len : hs.length ≤ 8
 span : ∀ x, x < hs.length → 1 ≤ loH hs x ∧ hiH hs x ≤ 4000 ∧ loH hs x ≤ hiH hs x
 js : ∀ (i : Nat) (hi : i < js.length), OkJ js[i] ∧ js[i].one < hs.length ∧ js[i].two < hs.length ∧ js[i].one ≠ js[i].two
 m0 : w0.heap.size ≤ m
 ne : Bk ≠ m ∧ Bg ≠ m ∧ Bs ≠ m ∧ Bf ≠ m ∧ Bc ≠ m
theorem CanW.keep {A0 : Option Addr} {c0 : Nat} {hs : List S26} {vS vP : Value} {b0 b1 : Int} {lf : Nat → Bool} {e0 e1 : Int} {A3 : Option Addr} {c3 : Nat} {js : List J} {go : Option Nat} {gl : List (Int × Int)} {m Bk Bg Bs Bf Bc : Nat} {w0 W W' : World} {M : Mm m} {S : Nat → Prop}
  (h : CanW A0 c0 hs vS vP b0 b1 lf e0 e1 A3 c3 js go m Bk Bg Bs Bf Bc w0 W) (hs_ : CanS A0 hs A3 js go gl m Bk Bg Bs Bf Bc w0) (hk : KR M S W W') (hS : ∀ i, i < w0.heap.size → S i) (hB : S Bk ∧ S Bg ∧ S Bs ∧ S Bf ∧ S Bc) : CanW A0 c0 hs vS vP b0 b1 lf e0 e1 A3 c3 js go m Bk Bg Bs Bf Bc w0 W' :=
 ⟨hk.base h.base hS hs_.m0, hk.at h.known hB.1 hs_.ne.1, hk.at h.given hB.2.1 hs_.ne.2.1, hk.at h.set hB.2.2.1 hs_.ne.2.2.1, hk.at h.fits hB.2.2.2.1 hs_.ne.2.2.2.1, hk.at h.can hB.2.2.2.2 hs_.ne.2.2.2.2⟩
set_option maxRecDepth 100000 in
set_option maxHeartbeats 4000000 in
theorem can_known (A0 : Option Addr) (c0 : Nat) (hs : List S26) (vS vP : Value) (b0 b1 : Int) (lf : Nat → Bool) (e0 e1 : Int) (A3 : Option Addr) (c3 : Nat) (js : List J) (go : Option Nat) (gl : List (Int × Int)) (m Bk Bg Bs Bf Bc : Nat) (w0 W : World)
  (hS : CanS A0 hs A3 js go gl m Bk Bg Bs Bf Bc w0) (hW : CanW A0 c0 hs vS vP b0 b1 lf e0 e1 A3 c3 js go m Bk Bg Bs Bf Bc w0 W) (M : Mm m) (kv : List ((Int × Int) × Bool)) (hkv : MapIs E111 Value.bool W m kv) (x : Nat) (p from_ : Int) (v : Bool) (hv : kvGet Value.bool (.bool false) kv ((x : Int), p) = (.bool v, true)) :
  CallsIn Fence.wide 9 Tryd.prog 80 #[.agg #[.int .i64 (x : Int), .int .i64 p], .int .i64 from_, .pointer (some ⟨Bk, 0, none⟩), .pointer (some ⟨Bg, 0, none⟩), .pointer (some ⟨Bs, 0, none⟩), .pointer (some ⟨Bf, 0, none⟩), .pointer (some ⟨Bc, 0, none⟩)] W fun e W' => e = .returned (.bool v) ∧ KB M W W' := by
 have hu111 := Tryd.underlying111
 have k0 : ((W.alloc (.cells #[.int .i64 (x : Int), .int .i64 p] 111)).alloc (.cells #[.int .i64 from_] 3)).cell? ⟨Bk, 0, none⟩ = some (.map (some m)) := cell_a2 ((blk_cell hW.known 0).trans rfl) _ _
 have HM := zh ((hkv.alloc (.cells #[.int .i64 (x : Int), .int .i64 p] 111)).alloc (.cells #[.int .i64 from_] 3))
 have HK := zh hv
 clear hkv hv hW hS
 refine callsIn_of_wp_marks Tryd.func80 rfl trivial ?_ rfl
 simp only [Tryd.ntmps80, List.size_toArray, List.length_cons, List.length_nil, Nat.reduceAdd, Nat.reduceSub, Array.replicate_succ, Array.replicate_zero, List.push_toArray, List.append_toArray, List.nil_append, List.cons_append]
 gi_wp2_with ((with_reducible refine wpListIn_look E111 Value.bool rfl (.tmp 22) (.tmp 23) true rfl Tryd.underlying108 rfl HM.out (.bool false) (zero4 _) ((x : Int), p) rfl ?_); rw [HK.out])
 refine ⟨.bool v, by simp [results, Tryd.results80, go_sem], rfl, ?_⟩
 exact (KB.alloc M W _).trans (KB.alloc M _ _)
end Go.Proofs.YtgehkojccmkggaaDoor.K
end
section
namespace Go.Proofs.YtgehkojccmkggaaDoor.K
open Go.RowKit Go.Shelf Go.Proofs.YtgehkojccmkggaaDoorW.PrintWords Go.Proofs.YtgehkojccmkggaaDoorW.PrintLast Go.Proofs.YtgehkojccmkggaaDoorW.PrintMore Go.Proofs.YtgehkojccmkggaaDoor.H Tune
set_option linter.unusedVariables false
set_option linter.unusedSimpArgs false
attribute [local go_sem] Oper.semAt_some
def inK (n : Nat) (k : Int) : Bool := decide (0 ≤ k) && decide (k ≤ (n : Int) - 1)
def scaleStep (n : Nat) (x : S61) (st : List S80 × Bool) (i : Nat) : List S80 × Bool :=
 let ok := st.2 && inK n (x.f0.getD i 0)
 (if ok = true ∧ 0 < i ∧ i ≤ x.f1.length then st.1 ++ [⟨x.f0.getD (i - 1) 0, x.f0.getD i 0, 0, ⟨(x.f1.getD (i - 1) z26).f0, (x.f1.getD (i - 1) z26).f1⟩⟩] else st.1, ok)
def scaleJ (n : Nat) (st : List S80 × Bool) (x : S61) : List S80 × Bool := (List.range x.f0.length).foldl (scaleStep n x) st
def pairStep (n : Nat) (b0 b1 : Int) (st : List S80 × Bool) (p : S48) : List S80 × Bool :=
 let ok := (st.2 && inK n p.f0) && inK n p.f1
 (if ok = true then st.1 ++ [⟨p.f0, p.f1, 1, ⟨b0, b1⟩⟩] else st.1, ok)
def jointsT (h : List S26) (s : List S61) (p : List S48) (b0 b1 : Int) : List S80 × Bool := p.foldl (pairStep h.length b0 b1) (s.foldl (scaleJ h.length) ([], true))
def many (s : List S61) : Nat := (s.map fun x => x.f0.length).sum
def small (h : List S26) (s : List S61) (p : List S48) : Bool := decide (h.length ≤ 4000000) && decide (s.length ≤ 4000000) && decide (p.length ≤ 4000000) && decide (many s ≤ 4000000)
theorem w64 {x : Int} (h1 : -9223372036854775808 ≤ x) (h2 : x ≤ 9223372036854775807) : wrap64 x = x := by unfold wrap64; omega
theorem lies_in (n : Nat) (k : Int) (hn : n ≤ 4000000) : tune_lies.f k 0 (wrap64 ((n : Int) - 1)) = some (inK n k) := by
 rw [lies_f, w64 (by omega) (by omega)]
 rfl
theorem pair_loop (h : List S26) (s : List S61) (p : List S48) (b0 b1 : Int) (hh : h.length ≤ 4000000) (hp : p.length ≤ 4000000) : ∀ (d k i : Nat) (st : List S80 × Bool), i + d = p.length → d < k → st.1.length + d ≤ 10000000 →
  tune_joints.l2 k st.1 st.2 p (p.length : Int) (i : Int) h s p b0 b1 = some ((p.drop i).foldl (pairStep h.length b0 b1) st) := by
 intro d
 induction d with
 | zero =>
  intro k i st hi hk _
  obtain ⟨k, rfl⟩ : ∃ m, k = m + 1 := ⟨k - 1, by omega⟩
  rw [tune_joints.l2, if_neg (by omega), List.drop_of_length_le (by omega)]
  rfl
 | succ d ih =>
  intro k i st hi hk hl
  obtain ⟨k, rfl⟩ : ∃ m, k = m + 1 := ⟨k - 1, by omega⟩
  have hlt : i < p.length := by omega
  have hw : wrap64 ((i : Int) + 1) = ((i + 1 : Nat) : Int) := by rw [w64 (by omega) (by omega)]; omega
  have hrd : rd_T48 p (i : Int) = p[i] := by unfold rd_T48; rw [Int.toNat_natCast]; simp [List.getD_eq_getElem?_getD, hlt]
  rw [tune_joints.l2, if_pos (by omega), if_pos (by omega), if_pos (by omega), List.drop_eq_getElem_cons hlt, List.foldl_cons]
  obtain ⟨L, ok⟩ := st
  dsimp only at hl ⊢
  rw [hrd, lies_in _ _ hh, lies_in _ _ hh]
  have hps : pairStep h.length b0 b1 (L, ok) p[i] = (if ((ok && inK h.length p[i].f0) && inK h.length p[i].f1) = true then L ++ [⟨p[i].f0, p[i].f1, 1, ⟨b0, b1⟩⟩] else L, (ok && inK h.length p[i].f0) && inK h.length p[i].f1) := rfl
  cases ok with
  | false =>
   simp only [Bool.false_eq_true, if_false]
   rw [hps, hw]
   exact ih k (i + 1) (L, false) (by omega) (by omega) (by dsimp only; omega)
  | true =>
   simp only [if_true, Option.bind_some]
   cases h0 : inK h.length p[i].f0 with
   | false =>
    simp only [Bool.false_eq_true, if_false]
    rw [hps, h0, hw]
    exact ih k (i + 1) (L, false) (by omega) (by omega) (by dsimp only; omega)
   | true =>
    simp only [if_true, Option.bind_some]
    cases h1 : inK h.length p[i].f1 with
    | false =>
     simp only [Bool.false_eq_true, if_false]
     rw [hps, h0, h1, hw]
     exact ih k (i + 1) (L, false) (by omega) (by omega) (by dsimp only; omega)
    | true =>
     simp only [if_true]
     rw [if_pos (by omega), hps, h0, h1, hw]
     exact ih k (i + 1) (L ++ [⟨p[i].f0, p[i].f1, 1, ⟨b0, b1⟩⟩], true) (by omega) (by omega) (by simp; omega)
theorem scaleStep_len (n : Nat) (x : S61) (st : List S80 × Bool) (i : Nat) : (scaleStep n x st i).1.length ≤ st.1.length + 1 := by
 unfold scaleStep
 dsimp only
 split <;> simp
theorem scale_loop (h : List S26) (s : List S61) (p : List S48) (b0 b1 : Int) (x : S61) (hh : h.length ≤ 4000000) (hx : x.f0.length ≤ 4000000) (q1 q2 : Int) (res : List S80 × Bool) : ∀ (d k i : Nat) (st : List S80 × Bool), i + d = x.f0.length → d < k → st.1.length + d ≤ 10000000 →
  (∀ st', st' = (List.range' i d).foldl (scaleStep h.length x) st → tune_joints.l0 (k - 1 - d) st'.1 st'.2 s q1 (wrap64 (q2 + 1)) h s p b0 b1 = some res) →
  tune_joints.l1 k st.1 st.2 s q1 q2 x.f0 (x.f0.length : Int) (i : Int) h s p b0 b1 x.f0 x.f1 = some res := by
 intro d
 induction d with
 | zero =>
  intro k i st hi hk _ hc
  obtain ⟨k, rfl⟩ : ∃ m, k = m + 1 := ⟨k - 1, by omega⟩
  rw [tune_joints.l1, if_neg (by omega)]
  exact hc st rfl
 | succ d ih =>
  intro k i st hi hk hl hc
  obtain ⟨k, rfl⟩ : ∃ m, k = m + 1 := ⟨k - 1, by omega⟩
  have hlt : i < x.f0.length := by omega
  have hw : wrap64 ((i : Int) + 1) = ((i + 1 : Nat) : Int) := by rw [w64 (by omega) (by omega)]; omega
  have hw1 : wrap64 ((i : Int) - 1) = (i : Int) - 1 := w64 (by omega) (by omega)
  have hrd : rd x.f0 (i : Int) = x.f0.getD i 0 := by unfold rd; rw [Int.toNat_natCast]
  have hrec : ∀ st2 : List S80 × Bool, st2 = scaleStep h.length x st i → tune_joints.l1 k st2.1 st2.2 s q1 q2 x.f0 (x.f0.length : Int) ((i + 1 : Nat) : Int) h s p b0 b1 x.f0 x.f1 = some res := fun st2 e => by
   refine ih k (i + 1) st2 (by omega) (by omega) ?_ (fun st' e' => ?_)
   ·have := scaleStep_len h.length x st i
    rw [e]
    omega
   ·have := hc st' (by rw [e', e, List.range'_succ, List.foldl_cons])
    rw [show k + 1 - 1 - (d + 1) = k - 1 - d from by omega] at this
    exact this
  rw [tune_joints.l1, if_pos (by omega), if_pos (by omega), if_pos (by omega)]
  obtain ⟨L, ok⟩ := st
  dsimp only at hl ⊢
  rw [hrd, lies_in _ _ hh, hw, hw1]
  have hss : scaleStep h.length x (L, ok) i = (if (ok && inK h.length (x.f0.getD i 0)) = true ∧ 0 < i ∧ i ≤ x.f1.length then L ++ [⟨x.f0.getD (i - 1) 0, x.f0.getD i 0, 0, ⟨(x.f1.getD (i - 1) z26).f0, (x.f1.getD (i - 1) z26).f1⟩⟩] else L, ok && inK h.length (x.f0.getD i 0)) := rfl
  cases ok with
  | false =>
   simp only [Bool.false_eq_true, if_false]
   exact hrec (L, false) (by rw [hss]; simp)
  | true =>
   simp only [if_true, Option.bind_some]
   cases h0 : inK h.length (x.f0.getD i 0) with
   | false =>
    simp only [Bool.false_eq_true, if_false]
    exact hrec (L, false) (by rw [hss, h0]; simp)
   | true =>
    simp only [if_true]
    by_cases hi0 : (i : Int) > 0
    ·rw [if_pos hi0]
     by_cases hi1 : (i : Int) ≤ (x.f1.length : Int)
     ·have e1 : rd x.f0 ((i : Int) - 1) = x.f0.getD (i - 1) 0 := by unfold rd; rw [show ((i : Int) - 1).toNat = i - 1 from by omega]
      have e2 : rd_T26 x.f1 ((i : Int) - 1) = x.f1.getD (i - 1) z26 := by unfold rd_T26; rw [show ((i : Int) - 1).toNat = i - 1 from by omega]
      rw [if_pos hi1, if_pos (by omega), if_pos (by omega), if_pos (by omega), if_pos (by omega), e1, e2]
      exact hrec (L ++ [_], true) (by rw [hss, h0, if_pos ⟨rfl, by omega, by omega⟩]; rfl)
     ·rw [if_neg hi1]
      exact hrec (L, true) (by rw [hss, h0, if_neg (by omega)]; rfl)
    ·rw [if_neg hi0]
     exact hrec (L, true) (by rw [hss, h0, if_neg (by omega)]; rfl)
theorem scaleJ_len (n : Nat) (st : List S80 × Bool) (x : S61) : (scaleJ n st x).1.length ≤ st.1.length + x.f0.length := by
 unfold scaleJ
 have main : ∀ (l : List Nat) (st : List S80 × Bool), (l.foldl (scaleStep n x) st).1.length ≤ st.1.length + l.length := by
  intro l
  induction l with
  | nil => intro st; simp
  | cons i l ih =>
   intro st
   rw [List.foldl_cons]
   have h1 := ih (scaleStep n x st i)
   have h2 := scaleStep_len n x st i
   simp only [List.length_cons]
   omega
 have := main (List.range x.f0.length) st
 rw [List.length_range] at this
 exact this
theorem scales_loop (h : List S26) (s : List S61) (p : List S48) (b0 b1 : Int) (hh : h.length ≤ 4000000) (hp : p.length ≤ 4000000) : ∀ (d k i : Nat) (st : List S80 × Bool), i + d = s.length → many (s.drop i) + d + p.length + d + 5 < k → st.1.length + many (s.drop i) + p.length ≤ 10000000 → many (s.drop i) ≤ 4000000 → s.length ≤ 4000000 →
  tune_joints.l0 k st.1 st.2 s (s.length : Int) (i : Int) h s p b0 b1 = some (p.foldl (pairStep h.length b0 b1) ((s.drop i).foldl (scaleJ h.length) st)) := by
 intro d
 induction d with
 | zero =>
  intro k i st hi hk hl _ _
  obtain ⟨k, rfl⟩ : ∃ m, k = m + 1 := ⟨k - 1, by omega⟩
  rw [tune_joints.l0, if_neg (by omega), List.drop_of_length_le (by omega)]
  have := pair_loop h s p b0 b1 hh hp p.length k 0 st (by omega) (by omega) (by omega)
  rw [List.drop_zero] at this
  exact this
 | succ d ih =>
  intro k i st hi hk hl hm hs
  obtain ⟨k, rfl⟩ : ∃ m, k = m + 1 := ⟨k - 1, by omega⟩
  have hlt : i < s.length := by omega
  have hdr : s.drop i = s[i] :: s.drop (i + 1) := List.drop_eq_getElem_cons hlt
  have hmn : many (s.drop i) = s[i].f0.length + many (s.drop (i + 1)) := by unfold many; rw [hdr, List.map_cons, List.sum_cons]
  have hrd : rd_T61 s (i : Int) = s[i] := by unfold rd_T61; rw [Int.toNat_natCast]; simp [List.getD_eq_getElem?_getD, hlt]
  have hw : wrap64 ((i : Int) + 1) = ((i + 1 : Nat) : Int) := by rw [w64 (by omega) (by omega)]; omega
  have ihk := fun k st => ih k (i + 1) st (by omega)
  clear ih
  generalize many (s.drop (i + 1)) = m1 at ihk hmn
  rw [hmn] at hk hl hm
  clear hmn
  have h0 : (i : Int) < (s.length : Int) := by omega
  have h1 : 0 ≤ (i : Int) := by omega
  rw [tune_joints.l0, if_pos h0, if_pos h1, if_pos h0, hrd]
  refine scale_loop h s p b0 b1 s[i] hh (by omega) (s.length : Int) (i : Int) _ s[i].f0.length k 0 st (by omega) (by omega) (by omega) (fun st' e' => ?_)
  have e2 : st' = scaleJ h.length st s[i] := by rw [e']; unfold scaleJ; rw [List.range_eq_range']
  have hl2 := scaleJ_len h.length st s[i]
  rw [hw, e2, hdr, List.foldl_cons]
  exact ihk (k - 1 - s[i].f0.length) (scaleJ h.length st s[i]) (by omega) (by omega) (by omega) hs
theorem joints_f {h : List S26} {s : List S61} {p : List S48} {b0 b1 : Int} (hsm : small h s p = true) : tune_joints.f (many s + 2 * s.length + p.length + 10) h s p b0 b1 = some (jointsT h s p b0 b1) := by
 unfold small at hsm
 simp only [Bool.and_eq_true, decide_eq_true_eq] at hsm
 obtain ⟨⟨⟨h1, h2⟩, h3⟩, h4⟩ := hsm
 unfold tune_joints.f jointsT
 have := scales_loop h s p b0 b1 h1 h3 s.length (many s + 2 * s.length + p.length + 10) 0 ([], true) (by omega) (by rw [List.drop_zero]; omega) (by rw [List.drop_zero]; simp; omega) (by rw [List.drop_zero]; exact h4) h2
 rw [List.drop_zero] at this
 exact this
end Go.Proofs.YtgehkojccmkggaaDoor.K
end
